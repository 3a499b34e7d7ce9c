import PyProof.Rows.All
import Wide.All
import OpenK.AllK
import Wide.FinOn
import KE.OsRunLaw
import KE.KOpsOwn
import HandS.ForMost
import HandS.More
import HandS.Star
import HandS.ClsMeth
import HandS.Property
import HandS.IsInst
import HandS.SetKeys
import HandS.Style
import KE.GoesMore
import PyProof.EnumMake
import HandS.Text
import PyProof.InstNe
import HandS.Conv
import HandS.TupAny
import HandS.Lambda
import HandS.Nested
import HandS.EndTab
import HandS.ForExc
import HandS.ExcInit
import HandS.ExcIs
import HandS.ExcField
import HandS.TryOnly
import KE.KDflt
import KE.KExcIs
import PyProof.Rows.CountFlat
import HandS.FStr
import HandS.EndOwn
import HandS.WideBits
import HandS.GenYield
import HandS.GenCall
import HandS.GenList
import HandS.DictComp
import HandS.SetFor
import HandS.Strs
import HandS.SortInts
import HandS.Defaults
import HandS.NoneIn
import PyProof.StrOps2
import KE.KDictZip
import KE.KRevSl
import PyProof.ListStr
import KE.KUnpackStar
import HandS.Finally
import HandS.TryElse
import HandS.HeadHook3
import HandS.WordsDict
import HandS.TupSets
import KE.OsSetLaws
import HandS.SetTxt0
import PyProof.Rows.SortShellAny
import HandS.ListItems
import HandS.ExcValue
import PySem.Challenge.RW_pastekeys_k15_whole_readers_keep_the_tru
set_option Elab.async false
set_option linter.all false
set_option maxRecDepth 100000
set_option maxHeartbeats 1000000
namespace L2.Px
open PySem PySem.Spec PyProof.Rows StX
/-- the def named x keeps the promise sp -/
def GOk (P : Program) (w : World) (K : PySem.W.Frag) (mg : Str → Option Value) (base : Heap) (CX : CXT) (k : Nat) (x : Str) (sp : Sp) : Prop :=
  ∃ f, FnR P w K mg base CX k f sp ∧ mg x = some (.ref f) ∧ PySem.W.keepIn K (.ref f) = true
/-- the method m of the class at C keeps the promise sp -/
def MOk (P : Program) (w : World) (K : PySem.W.Frag) (mg : Str → Option Value) (base : Heap) (CX : CXT) (k : Nat) (C : Addr) (m : Str) (sp : Sp) : Prop :=
  ∃ f, FnR P w K mg base CX k f sp ∧ Meth K C m f
/-- a def of the top, as it stands -/
def DefG (K : PySem.W.Frag) (mg : Str → Option Value) (x : Str) (st : Stmt) (ps : List Str) : Prop :=
  ∃ f fd, Fun K x x st f fd ∧ mg x = some (.ref f) ∧ Binds K fd ps []
/-- a method of the class at C, as it stands -/
def DefM (K : PySem.W.Frag) (C : Addr) (m qual : Str) (st : Stmt) (ps : List Str) : Prop :=
  ∃ f fd, Fun K m qual st f fd ∧ Meth K C m f ∧ Binds K fd ps []
section
variable {P : Program} {w : World} {K : PySem.W.Frag} {mg : Str → Option Value} {base : Heap} {CX : CXT} {k : Nat} {f C : Addr} {fd : FuncData} {ps : List Str} {sp : Sp} {x m qual : Str} {st : Stmt}
theorem FnOk.toR (F : FnOk P w K mg base CX k f fd ps sp) (hb : Binds K fd ps []) : FnR P w K mg base CX k f sp := by
  intro A outer s H us vs Q E hr e0 r h
  have hl : (us ++ ([] : List Value)).length = ps.length := by rw [List.append_nil, ← r.length]; exact F.len _ _ _ _ h
  have kin : K.In s.heap := e0.mod.kin.keeps fun b o e => (e0.bs b o e).1
  have b1 := hb s us kin hl
  rw [List.append_nil] at b1
  exact F.run A outer s H ⟨us, []⟩ us vs Q E hr e0 b1 r h
theorem FnOk.toR1 {dvs : List V} {ds : List Value} (F : FnOk P w K mg base CX k f fd ps sp) (hb : Binds K fd ps ds) (hd : Vals dvs ds) : FnR P w K mg base CX k f (fun vs => sp (vs ++ dvs)) := by
  intro A outer s H us vs Q E hr e0 r h
  have r2 : Vals (vs ++ dvs) (us ++ ds) := r.append hd
  have hl : (us ++ ds).length = ps.length := by rw [← r2.length]; exact F.len _ _ _ _ h
  have kin : K.In s.heap := e0.mod.kin.keeps fun b o e => (e0.bs b o e).1
  exact F.run A outer s H ⟨us, []⟩ (us ++ ds) (vs ++ dvs) Q E hr e0 (hb s us kin hl) r2 h
theorem GOk.mono {j : Nat} (G : GOk P w K mg base CX j x sp) (h : j ≤ k) : GOk P w K mg base CX k x sp := let ⟨f, F, a, b⟩ := G; ⟨f, F.mono h, a, b⟩
theorem MOk.mono {j : Nat} (G : MOk P w K mg base CX j C m sp) (h : j ≤ k) : MOk P w K mg base CX k C m sp := let ⟨f, F, a⟩ := G; ⟨f, F.mono h, a⟩
/-- a def that no error leaves -/
theorem DefG.ok {N : List Str} (D : DefG K mg x st ps) (S : FnScope N ps (defScope st)) (len : ∀ vs H Q E, sp vs H Q E → vs.length = ps.length)
    (hbody : ∀ (f : Addr) (cdv : Value) (A : Around) (outer : List Env) (s : Shared) (H : Hp) (vs : List V) (Q : VK) (E : XK), Room k (A.deeper (envOfC x (defScope st) s.heap.objs.size f cdv)) → sp vs H Q E →
      ∃ t, PSs (cxOf CX0 P w K mg base N x (defScope st) f cdv A outer s H E).nox (defBody st) t ∧ t { nx := fun _ H' => Q .non H', rt := Q } (start N vs) H) : GOk P w K mg base CX0 (k + 1) x sp := by
  obtain ⟨f, fd, F, a, b⟩ := D
  exact ⟨f, FnOk.toR (F.ok S len fun cdv A outer s H vs Q E hr h => hbody f cdv A outer s H vs Q E hr h) b, a, F.kp⟩
theorem DefM.ok {N : List Str} (D : DefM K C m qual st ps) (S : FnScope N ps (defScope st)) (len : ∀ vs H Q E, sp vs H Q E → vs.length = ps.length)
    (hbody : ∀ (f : Addr) (cdv : Value) (A : Around) (outer : List Env) (s : Shared) (H : Hp) (vs : List V) (Q : VK) (E : XK), Room k (A.deeper (envOfC qual (defScope st) s.heap.objs.size f cdv)) → sp vs H Q E →
      ∃ t, PSs (cxOf CX0 P w K mg base N qual (defScope st) f cdv A outer s H E).nox (defBody st) t ∧ t { nx := fun _ H' => Q .non H', rt := Q } (start N vs) H) : MOk P w K mg base CX0 (k + 1) C m sp := by
  obtain ⟨f, fd, F, a, b⟩ := D
  exact ⟨f, FnOk.toR (F.ok S len fun cdv A outer s H vs Q E hr h => hbody f cdv A outer s H vs Q E hr h) b, a⟩
end
section
variable {X : Cx} {CX : CXT} {k : Nat} {C : Addr} {sp : Sp} {E : XK} {x m : Str} {e o : Expr} {es : List Expr} {te ta : TE} {t : TA} {p pos apos : Pos}
def tG (sp : Sp) (E : XK) (t : TA) : TE := fun σ H Q => t σ H fun vs H1 => sp vs H1 Q E
theorem pe_g (G : GOk X.prog X.w X.K X.mg X.base CX k x sp) (hr : Room k X.A) (hx : Passes CX X E) (ha : PA X (e :: es) t) (hg : Gl X x := by rfl) (hd : (x == ("__debug__" : Str)) = false := by decide)
    (he : starEach (e :: es) X.env = (false, eval e X.env) :: starEach es X.env := by rfl) (hpl : (backTo pos (starEach es X.env)).any (·.1) = false := by rfl) : PE X (.Call (.Name x p) (e :: es) [] pos) (tG sp E t) := by
  obtain ⟨f, F, hm, hk⟩ := G
  refine ⟨fun pins s σ H Q I h => ?_⟩
  refine wpAny_Call_Name_kw (ld_glob I hg hm ?_ hd)
  refine PySem.W.callWith_K (h₀ := X.base) I.ok.mod.kin hk (thn (ha.run pos pins s σ H _ I h) fun us s1 ⟨vs, H1, I1, r, q⟩ => ⟨I1.kIn, ?_⟩) he hpl
  exact wpAny_call (run_fnR F hr hx I1 r q)
/-- an instance of C that has no attribute m -/
def InsM (H : Hp) (a C : Addr) (m : Str) : Prop := ∃ dx fs, H a = some (.ins C dx fs) ∧ fs.lookup m = none
def tM (C : Addr) (m : Str) (sp : Sp) (E : XK) (ta : TE) (t : TA) : TE := fun σ H Q => ta σ H fun x H1 => ∃ a, x = .ref a ∧ InsM H1 a C m ∧ t σ H1 fun vs H2 => sp (x :: vs) H2 Q E
theorem pe_m {pl : Sem Bool} (he : PE X o ta) (c : Cls X.K C) (G : MOk X.prog X.w X.K X.mg X.base CX k C m sp) (hr : Room k X.A) (hx : Passes CX X E) (ha : PA X (e :: es) t)
    (hst : starEach (e :: es) X.env = (false, eval e X.env) :: starEach es X.env := by rfl) (hpl : (backTo pos (starEach es X.env)).any (·.1) = false := by rfl)
    (ht : eval (.Call (.Attribute o m apos) (e :: es) [] pos) X.env = (do
      let ov ← eval o X.env
      standAt apos.atName
      let (f, first) ← holding [ov] (getMethod ov m pl)
      callWith pos f first (backTo pos (starEach (e :: es) X.env)) (backToKw pos (keywordEach [] X.env))) := by rfl) :
    PE X (.Call (.Attribute o m apos) (e :: es) [] pos) (tM C m sp E ta t) := by
  obtain ⟨f, F, hm⟩ := G
  refine ⟨fun pins s σ H Q I h => ?_⟩
  refine PySem.W.methodCall_KW (pl := pl) (thn (he.run pins s σ H _ I h) fun u s1 ⟨x, H1, I1, rx, a, ex, ⟨dx, fs, ea, l⟩, q⟩ => ?_) ht
  subst ex
  obtain rfl : u = Value.ref a := rx
  refine getmeth_ok I1 ea c hm l ?_
  refine PySem.W.callWith_K (first := [.ref a]) (h₀ := X.base) I.ok.mod.kin hm.kp (thn (ha.run pos pins s1 σ H1 _ I1 q) fun us s2 ⟨vs, H2, I2, r, q2⟩ => ⟨I2.kIn, ?_⟩) hst hpl
  exact wpAny_call (run_fnR (us := .ref a :: us) (vs := .ref a :: vs) F hr hx I2 (.cons rfl r) q2)
theorem pe_m0 {pl : Sem Bool} (he : PE X o ta) (c : Cls X.K C) (G : MOk X.prog X.w X.K X.mg X.base CX k C m sp) (hr : Room k X.A) (hx : Passes CX X E)
    (ht : eval (.Call (.Attribute o m apos) [] [] pos) X.env = (do
      let ov ← eval o X.env
      standAt apos.atName
      let (f, first) ← holding [ov] (getMethod ov m pl)
      callWith pos f first (backTo pos (starEach [] X.env)) (backToKw pos (keywordEach [] X.env))) := by rfl) :
    PE X (.Call (.Attribute o m apos) [] [] pos) (tM C m sp E ta tNil) := by
  obtain ⟨f, F, hm⟩ := G
  refine ⟨fun pins s σ H Q I h => ?_⟩
  refine PySem.W.methodCall_KW (pl := pl) (thn (he.run pins s σ H _ I h) fun u s1 ⟨x, H1, I1, rx, a, ex, ⟨dx, fs, ea, l⟩, q⟩ => ?_) ht
  subst ex
  obtain rfl : u = Value.ref a := rx
  refine getmeth_ok I1 ea c hm l ?_
  exact PySem.W.callWith_K0 (first := [.ref a]) I1.kIn hm.kp (wpAny_call (run_fnR (us := [.ref a]) (vs := [.ref a]) F hr hx I1 (.cons rfl .nil) q))
/-- the class at C is made by an __init__ that keeps sp -/
def KOk (P : Program) (w : World) (K : PySem.W.Frag) (mg : Str → Option Value) (base : Heap) (CX : CXT) (k : Nat) (C : Addr) (sp : Sp) : Prop :=
  ∃ f, FnR P w K mg base CX k f sp ∧ Mk K C f
theorem pe_k (G : KOk X.prog X.w X.K X.mg X.base CX k C sp) (hr : Room (k + 1) X.A) (hm : X.mg x = some (.ref C)) (hx : Passes CX X E) (ha : PA X (e :: es) t) (hg : Gl X x := by rfl) (hdb : (x == ("__debug__" : Str)) = false := by decide)
    (he : starEach (e :: es) X.env = (false, eval e X.env) :: starEach es X.env := by rfl) (hpl : (backTo pos (starEach es X.env)).any (·.1) = false := by rfl) : PE X (.Call (.Name x p) (e :: es) [] pos) (tMakeR C sp E t) :=
  let ⟨_, F, M⟩ := G
  pe_makeR M F hr hg hm hx ha hdb he hpl
/-- C(*y), C by any name -/
def tMakeS (K : PySem.W.Frag) (C : Addr) (sp : Sp) (E : XK) (tf te : TE) : TE := fun σ H Q => tf σ H fun c H0 => c = V.ref C ∧ te σ H0 fun y H1 => ∃ a xs, y = V.ref a ∧ (SqT K H1 a xs ∨ SqL K H1 a xs) ∧
  ∀ x dx, H1 x = Option.none → H1 dx = Option.none → dx ≠ x → sp (V.ref x :: xs) (upd (upd H1 dx (.own x)) x (.ins C dx [])) (fun v H2 => v = .non ∧ Q (.ref x) H2) E
theorem pe_ks {tf : TE} {sp_ : Pos} (hf : PE X (.Name x p) tf) (G : KOk X.prog X.w X.K X.mg X.base CX k C sp) (hr : Room (k + 1) X.A) (hx : Passes CX X E) (he : PE X e te)
    (hst : starEach [.Starred e sp_] X.env = [(true, eval e X.env)] := by rfl) : PE X (.Call (.Name x p) [.Starred e sp_] [] pos) (tMakeS X.K C sp E tf te) := by
  obtain ⟨f, F, M⟩ := G
  refine ⟨fun pins s σ H Q I h => ?_⟩
  refine wpAny_Call_Name_kw (thn (hf.run pins s σ H _ I h) fun u0 s0 ⟨c, H0, I0, rc, ec, q0⟩ => ?_)
  subst ec
  obtain rfl : u0 = Value.ref C := rc
  refine PySem.W.callWith_S (h₀ := X.base) I.ok.mod.kin M.kp (thn (he.run pins s0 σ H0 _ I0 q0) fun v s1 ⟨y, H1, I1, ry, a, xs, ey, hxs, q⟩ => ?_) hst
  subst ey
  obtain rfl : v = Value.ref a := ry
  exact star_any I1 hxs fun us s2 I2 rv => ⟨I2.kIn, run_makeR M F hr hx I2 rv q⟩
end
section
variable {X : Cx} {CX : CXT} {k : Nat} {C f : Addr} {sp : Sp} {E : XK}
def InsA (H : Hp) (a C : Addr) : Prop := ∃ dx fs, H a = some (.ins C dx fs)
theorem InsA.at {pins : List (Addr × Obj)} {σ : St} {H : Hp} {s : Shared} {a : Addr} (I : Inv X pins σ H s) (h : InsA H a C) : ∃ ox od, PySem.W.InstAt s.heap a ox C od := by
  obtain ⟨dx, fs, h⟩ := h
  obtain ⟨mA, O, _⟩ := ins_get I.hok h
  obtain ⟨od, J, _⟩ := O.look
  exact ⟨_, _, J⟩
theorem ncb {u : Value} {x : V} (r : RelV x u) {Q : Value → Shared → Prop} {s : Shared} (h : Q u s) : PySem.W.CmpBack Q u s := by
  cases x with
  | non => cases r; exact h
  | bl _ => cases r; exact h
  | int _ => obtain ⟨t, rfl⟩ := r; exact h
  | str _ => obtain ⟨t, rfl⟩ := r; exact h
  | byt _ => obtain ⟨t, rfl⟩ := r; exact h
  | flt _ => obtain ⟨t, rfl⟩ := r; exact h
  | ref _ => cases r; exact h
  | ty _ => cases r; exact h
def rOwn (C : Addr) (sp : Sp) (E : XK) : R2 := fun x y H Q => ∃ a b, x = .ref a ∧ y = .ref b ∧ InsA H a C ∧ InsA H b C ∧ sp [x, y] H Q E
def rOwnI (C : Addr) (sp : Sp) (E : XK) : R2 := fun x y H Q => ∃ a i, x = .ref a ∧ y = .int i ∧ InsA H a C ∧ sp [x, y] H Q E
/-- x[y] by the own __getitem__ -/
structure IOwn (K : PySem.W.Frag) (C f : Addr) : Prop where
  at_ : PySem.W.findIn K (.ref C) "__getitem__" = some (some (.ref f))
  fi : PySem.W.fnIn K f = true
  fn : PySem.W.isFn K (.ref f) = true
def tIxOwn (C : Addr) (sp : Sp) (E : XK) (ta tb : TE) : TE := fun σ H Q => ta σ H fun x H1 => tb σ H1 fun y H2 => ∃ a, x = .ref a ∧ InsA H2 a C ∧ sp [x, y] H2 Q E
end
end L2.Px
set_option Elab.async false
set_option linter.all false
set_option maxRecDepth 100000
set_option maxHeartbeats 1000000
namespace L2.Px
open PySem PySem.Spec PyProof.Rows StX
section
variable {X : Cx} {CX : CXT} {k : Nat} {C f : Addr} {sp : Sp} {E : XK} {a b : Expr} {ta tb : TE} {pos : Pos}
theorem run_in1 {pins : List (Addr × Obj)} {σ : St} {H : Hp} {s : Shared} {Q : VK} {us : List Value} {vs : List V} (F : FnR X.prog X.w X.K X.mg X.base CX k f sp) (hr : Room (k + 1) X.A) (hx : Passes CX X E) (I : Inv X pins σ H s) (r : Vals vs us) (h : sp vs H Q E) :
    wpAny (model X.prog X.w) X.A.in1 (call (.ref f) us) (EP X pins σ Q) X.xe s := by
  refine wpAny_call (codeAny_mono (F X.A.in1 X.stack s H us vs Q E hr.in1 I.env0.in1 r h) fun r s' hq => ?_)
  cases r with
  | error e => exact hx pins σ H s e s' I hq
  | ok fl =>
    cases fl with
    | ret u => exact I.after hq
    | next => exact False.elim hq
    | brk => exact False.elim hq
    | cont => exact False.elim hq
theorem pe_ixOwn (c : IOwn X.K C f) (F : FnR X.prog X.w X.K X.mg X.base CX k f sp) (hr : Room (k + 1) X.A) (hx : Passes CX X E) (ha : PE X a ta) (hb : PE X b tb)
    (hsl : ∀ x i, subscripted b true (.ref x) i = runValue (.builtin "lifetime.subscript" ⟨[.ref x, i], []⟩) := by intros; rfl) : PE X (.Subscript a b pos) (tIxOwn C sp E ta tb) := by
  refine ⟨fun pins s σ H Q I h => ?_⟩
  refine Subscript_ (binT (R := fun x y H2 => ∃ a, x = .ref a ∧ InsA H2 a C ∧ sp [x, y] H2 Q E) ha hb I h fun v u s2 x y H2 I2 rx ry q => ?_)
  obtain ⟨p, rfl, ip, q⟩ := q
  obtain rfl : v = Value.ref p := rx
  obtain ⟨ox, od, J⟩ := ip.at I2
  obtain ⟨m, Fr0⟩ := I2.fr
  exact PySem.W.sub_K Fr0 I.ok.mod.kin J c.at_ c.fi c.fn (run_in1 (us := [.ref p, u]) (vs := [.ref p, y]) F hr hx I2 (.cons rfl (.cons ry .nil)) q) (hsl p u)
end
section
variable {X : Cx}
abbrev MQ := List (Str ⊕ Nat)
/-- the sub-patterns of a sequence: written texts and names -/
inductive PatEach (X : Cx) : List Pattern → MQ → Prop
  | nil : PatEach X [] []
  | val {z : Str} {k : Nat} {c pp : Pos} {ps : List Pattern} {qs : MQ} (h : PatEach X ps qs) : PatEach X (.MatchValue (.Constant (.str z) k c) pp :: ps) (.inl z :: qs)
  | cap {x : Str} {i : Nat} {pp : Pos} {ps : List Pattern} {qs : MQ} (h : X.N[i]? = some x ∧ Loc X.env.scope x ∧ (X.fn x = true ∨ X.env.scope.names.lookup x = some .local)) (h2 : PatEach X ps qs) : PatEach X (.MatchAs none (some x) pp :: ps) (.inr i :: qs)
def mBind : MQ → List V → Option (List (Nat × V))
  | .inl z :: qs, v :: vs => if v = .str z then mBind qs vs else none
  | .inr i :: qs, v :: vs => (mBind qs vs).map ((i, v) :: ·)
  | _, _ => some []
def scalOk : MQ → List V → Prop
  | .inl z :: qs, v :: vs => scal v (.str z) = true ∧ (v = .str z → scalOk qs vs)
  | .inr _ :: qs, _ :: vs => scalOk qs vs
  | _, _ => True
def setAll : St → List (Nat × V) → St
  | σ, [] => σ
  | σ, (i, v) :: bs => setAll (σ.set i (some v)) bs
/-- the names' values, as the matching hands them on -/
def BindsAre (X : Cx) : List (Nat × V) → List (Str × Value) → Prop := Paired fun p q => (X.N[p.1]? = some q.1 ∧ Loc X.env.scope q.1 ∧ (X.fn q.1 = true ∨ X.env.scope.names.lookup q.1 = some .local)) ∧ RelV p.2 q.2
theorem matchEach_run {pins : List (Addr × Obj)} {σ : St} {H : Hp} : ∀ {ps : List Pattern} {qs : MQ} {vs : List V} {us : List Value} {s : Shared}, PatEach X ps qs → Vals vs us → qs.length = vs.length → scalOk qs vs → Inv X pins σ H s →
    wpAny (model X.prog X.w) X.A (matchEach ps X.env us) (fun r s' => Inv X pins σ H s' ∧ match mBind qs vs with | none => r = none | some bs => ∃ bs', r = some bs' ∧ BindsAre X bs bs') X.xe s := by
  intro ps
  induction ps with
  | nil =>
    intro qs vs us s hp r hl hs I
    cases hp
    cases vs with
    | nil =>
      cases r
      exact wpAny_matchEach_nil ⟨I, [], rfl, .nil⟩
    | cons v vs => cases hl
  | cons p ps ih =>
    intro qs vs us s hp r hl hs I
    cases qs with
    | nil => cases hp
    | cons q qs =>
      cases vs with
      | nil => cases hl
      | cons v vs =>
        cases r with
        | cons rv rr =>
          rename_i u us
          have hl' : qs.length = vs.length := Nat.succ.inj hl
          cases q with
          | inl z' =>
            cases hp with
            | val hp2 =>
            rename_i k c pp
            obtain ⟨sc, hs2⟩ := hs
            refine wpAny_matchEach_cons (wpAny_matchPattern_Value (Calls.Constant_str ?_)) rfl
            have I1 := I.tok (s.toks + 1)
            refine thn (op_eq pins { s with toks := s.toks + 1 } σ H v (.str z') u (.str z' s.toks) (fun x H' => H' = H ∧ x = .bl (decide (v = .str z'))) I1 rv ⟨_, rfl⟩ ⟨sc, rfl, rfl⟩) fun w s2 hw => ?_
            obtain ⟨x, H', I2, rx, eH, ex⟩ := hw
            subst eH ex
            obtain rfl : w = Value.bool (decide (v = .str z')) := rx
            refine wpAny_truthy_bool ?_
            by_cases hv : v = .str z'
            · rw [if_pos (decide_eq_true hv)]
              refine thn (ih hp2 rr hl' (hs2 hv) I2) fun r' s3 ⟨I3, h3⟩ => ?_
              unfold mBind
              rw [if_pos hv]
              revert h3
              cases mBind qs vs with
              | none => intro h3; subst h3; exact ⟨I3, rfl⟩
              | some bs =>
                rintro ⟨bs', e, hb⟩
                subst e
                exact ⟨I3, bs', rfl, hb⟩
            · rw [if_neg (by simp [hv])]
              unfold mBind
              rw [if_neg hv]
              exact ⟨I2, rfl⟩
          | inr i =>
            cases hp with
            | cap hx hp2 =>
            refine wpAny_matchEach_cons (wpAny_matchPattern_Capture ?_) rfl
            refine thn (ih hp2 rr hl' hs I) fun r' s3 ⟨I3, h3⟩ => ?_
            unfold mBind
            revert h3
            cases mBind qs vs with
            | none => intro h3; subst h3; exact ⟨I3, rfl⟩
            | some bs =>
              rintro ⟨bs', e, hb⟩
              subst e
              exact ⟨I3, _, rfl, .cons ⟨hx, rv⟩ hb⟩
theorem binds_run {pins : List (Addr × Obj)} {H : Hp} (hN : X.N.Nodup) : ∀ {bs : List (Nat × V)} {bs' : List (Str × Value)} {σ : St} {s : Shared} {Q : Unit → Shared → Prop} {E : Value → Shared → Prop}, BindsAre X bs bs' → Inv X pins σ H s →
    (∀ s', Inv X pins (setAll σ bs) H s' → Q () s') → wpAny (model X.prog X.w) X.A (assignInOrder (bs'.map fun (n, _) => bindName X.env n) (bs'.map (·.2))) Q E s
  | [], _, σ, s, Q, E, .nil, I, h => assignInOrder_nil (h s I)
  | (i, v) :: bs, (x, u) :: bs', σ, s, Q, E, .cons hx hb, I, h => by
    obtain ⟨⟨h1, h2, h3⟩, rv⟩ := hx
    refine assignInOrder_cons (wpAny_bindName (store_ok I hN h1 h2 rv (fun s1 I1 => ?_) h3))
    exact binds_run hN hb I1 h
abbrev TC := V → TS
/-- the cases of a match, from one on -/
structure PCs (X : Cx) (cs : List MatchCase) (t : TC) : Prop where
  run : ∀ (first : Bool) (pins : List (Addr × Obj)) (s : Shared) (σ : St) (H : Hp) (D : Ends) (x : V) (v : Value), Inv X pins σ H s → RelV x v → t x D σ H → wpAny (model X.prog X.w) X.A (matchCases cs X.env v first) (SP X pins D) X.xe s
/-- case _: -/
theorem pcs_wild {body : List Stmt} {tb : TS} {p : Pos} (hb : PSs X body tb) : PCs X [⟨.MatchAs none none p, none, body⟩] (fun _ => tb) := by
  refine ⟨fun first pins s σ H D x v I r h => ?_⟩
  exact wpAny_matchCases_cons (wpAny_matchPattern_Capture (assignInOrder_nil (hb.run pins s σ H D I h)))
def NoSeq : V → Prop
  | .non | .bl _ | .int _ | .str _ => True
  | _ => False
def tCaseS (K : PySem.W.Frag) (qs : MQ) (g : TT) (tb : TS) (rest : TC) : TC := fun x D σ H =>
  (NoSeq x ∧ rest x D σ H) ∨ ∃ a xs, x = .ref a ∧ (SqT K H a xs ∨ SqL K H a xs) ∧ ((xs.length ≠ qs.length ∧ rest x D σ H) ∨ (xs.length = qs.length ∧ scalOk qs xs ∧
    match mBind qs xs with
    | none => rest x D σ H
    | some bs => g (setAll σ bs) H fun ok H1 => if ok = true then tb D (setAll σ bs) H1 else rest x D (setAll σ bs) H1))
theorem noseq_flag {x : V} {v : Value} (n : NoSeq x) (r : RelV x v) {Q : Bool → Shared → Prop} {M : Model} {A : Around} {E : Value → Shared → Prop} {s : Shared} (h : Q false s) : wpAny M A (collectionFlag true v) Q E s := by
  cases x with
  | non => cases r; exact wpAny_collectionFlag (T := "NoneType") rfl flag_seq_None h
  | bl _ => cases r; exact wpAny_collectionFlag (T := "bool") rfl flag_seq_bool h
  | int _ => obtain ⟨t, rfl⟩ := r; exact wpAny_collectionFlag (T := "int") rfl flag_seq_int h
  | str _ => obtain ⟨t, rfl⟩ := r; exact wpAny_collectionFlag (T := "str") rfl flag_seq_str h
  | byt _ => exact n.elim
  | flt _ => exact n.elim
  | ref _ => exact n.elim
  | ty _ => exact n.elim
/-- case [p1, p2, ..] if g: -/
theorem pcs_seq {ps : List Pattern} {qs : MQ} {g : Expr} {body : List Stmt} {rest : List MatchCase} {tg : TT} {tb : TS} {tr : TC} {p : Pos} (hc : X.calm = true) (hN : X.N.Nodup) (hp : PatEach X ps qs) (hl : ps.length = qs.length) (hg : PT X g tg) (hb : PSs X body tb) (hr : PCs X rest tr)
    (hstar : ps.findIdx? (·.isStar) = none := by rfl) (hwild : (ps.all fun p => p.isWildcard || (p.isStar && p.names.isEmpty)) = false := by rfl) : PCs X (⟨.MatchSequence ps p, some g, body⟩ :: rest) (tCaseS X.K qs tg tb tr) := by
  refine ⟨fun first pins s σ H D x v I r h => wpAny_matchCases_cons ?_⟩
  rcases h with ⟨n, h⟩ | ⟨a, xs, rfl, hq, h⟩
  · refine wpAny_matchPattern_Sequence (noseq_flag n r ?_) hstar hwild
    rw [if_neg Bool.false_ne_true]
    exact hr.run false pins s σ H D x v I r h
  · obtain rfl : v = Value.ref a := r
    have tail : ∀ {us : List Value} {s1 : Shared}, Inv X pins σ H s1 → Vals xs us → xs.length = qs.length → scalOk qs xs → (match mBind qs xs with
        | none => tr (.ref a) D σ H
        | some bs => tg (setAll σ bs) H fun ok H1 => if ok = true then tb D (setAll σ bs) H1 else tr (.ref a) D (setAll σ bs) H1) →
        wpAny (model X.prog X.w) X.A (matchEach ps X.env us) (fun r s₁ => match r with
          | none => wpAny (model X.prog X.w) X.A (matchCases rest X.env (.ref a) false) (SP X pins D) X.xe s₁
          | some bs => wpAny (model X.prog X.w) X.A (assignInOrder (bs.map fun (n, _) => bindName X.env n) (bs.map (·.2))) (fun _ s₂ =>
              wpAny (model X.prog X.w) X.A (isTrue g X.env (eval g X.env)) (fun ok s₃ => if ok then wpAny (model X.prog X.w) X.A (execs body X.env) (SP X pins D) X.xe s₃ else wpAny (model X.prog X.w) X.A (matchCases rest X.env (.ref a) false) (SP X pins D) X.xe s₃) X.xe s₂) X.xe s₁) X.xe s1 := by
      intro us s1 I1 rv hl2 hs hm
      refine thn (matchEach_run hp rv hl2.symm hs I1) fun r' s3 ⟨I3, h3⟩ => ?_
      revert h3 hm
      cases mBind qs xs with
      | none => intro hm h3; subst h3; exact hr.run false pins s3 σ H D (.ref a) _ I3 rfl hm
      | some bs =>
        rintro hm ⟨bs', e, hb'⟩
        subst e
        refine binds_run hN hb' I3 fun s4 I4 => ?_
        refine thn (hg.run pins s4 _ H _ I4 hm) fun ok s5 ⟨H5, I5, h5⟩ => ?_
        cases ok with
        | true => exact hb.run pins s5 _ H5 D I5 h5
        | false => exact hr.run false pins s5 _ H5 D (.ref a) _ I5 rfl h5
    rcases hq with hq | hq
    · obtain ⟨its, rv, ht, hz⟩ := I.tuple hq
      have hfit : (its.toArray.size : Int) < 2 ^ 63 := by
        have e := rv.length
        have z := line63
        rw [List.size_toArray]
        omega
      have I1 := I.tok (s.toks + 1 + 1)
      rcases h with ⟨hn, h⟩ | ⟨hn, hs, h⟩
      · exact matchSeq_tuple_miss ht hfit (by rw [List.size_toArray, ← rv.length, hl]; exact hn) (hr.run false pins _ σ H D (.ref a) _ I1 rfl h) hstar hwild
      · refine matchSeq_tuple_hit ht hfit (by rw [List.size_toArray, ← rv.length, hl]; exact hn) ?_ hstar hwild
        have e : ps.length = its.toArray.size := by rw [List.size_toArray, ← rv.length, hl]; exact hn.symm
        rw [e]
        refine unpackItems_tuple (I.ok.hd hc) ht fun h' hx => ?_
        exact tail (I1.kept (t' := s.toks + 1 + 1) fun b o q => hx b o (Nat.ne_of_lt (Heap.lt_size q)) q) (by simpa using rv) hn hs h
    · obtain ⟨its, rv, pl, hz⟩ := I.list hq
      have hfit : (its.toArray.size : Int) < 2 ^ 63 := by
        have e := rv.length
        have z := line63
        rw [List.size_toArray]
        omega
      have I1 := I.tok (s.toks + 1 + 1)
      rcases h with ⟨hn, h⟩ | ⟨hn, hs, h⟩
      · exact matchSeq_list_miss pl.isList hfit (by rw [List.size_toArray, ← rv.length, hl]; exact hn) (hr.run false pins _ σ H D (.ref a) _ I1 rfl h) hstar hwild
      · refine matchSeq_list_hit pl.isList hfit (by rw [List.size_toArray, ← rv.length, hl]; exact hn) ?_ hstar hwild
        have e : ps.length = its.toArray.size := by rw [List.size_toArray, ← rv.length, hl]; exact hn.symm
        rw [e]
        refine PySem.W.kun_itemsOf (I.ok.hd hc) pl.isList fun h' hx => ?_
        exact tail (I1.kept (t' := s.toks + 1 + 1) fun b o q => hx b o (Nat.ne_of_lt (Heap.lt_size q)) q) (by simpa using rv) hn hs h
def tMatch (te : TE) (tc : TC) : TS := fun D σ H => te σ H fun x H1 => tc x D σ H1
theorem ps_match {e : Expr} {cs : List MatchCase} {te : TE} {tc : TC} {pos : Pos} (he : PE X e te) (hc : PCs X cs tc) : PS X (.Match e cs pos) (tMatch te tc) := by
  refine ⟨fun pins s σ H D I h => wpAny_Match (thn (he.run pins s σ H _ I h) fun v s1 ⟨x, H1, I1, r, q⟩ => ?_)⟩
  exact hc.run true pins s1 σ H1 D x v I1 r q
end
end L2.Px
set_option Elab.async false
set_option linter.all false
set_option maxRecDepth 100000
set_option maxHeartbeats 1000000
namespace PySem
open Sem (wp)
open AutoSeq1 (wpAny_loadPart')
theorem pxMeets_enumerate_newT (l : Addr) (items : Array Value) (n : Nat) (dct : Option Addr) (sl : Array (Option Value)) :
    Meets (Builtin.«enumerate.__new__» ⟨[.type "enumerate", .ref l], []⟩) (fun _ R s => s.heap.get? l = some { cls := .type "tuple", dict := dct, data := .seq items n, slots := sl } ∧
      R (.ok (.ret (.ref (s.heap.push { cls := .type "tuple_iterator", data := .fields #[.ref l, .int 0 0] }).objs.size)))
        { s with heap := (s.heap.push { cls := .type "tuple_iterator", data := .fields #[.ref l, .int 0 0] }).push { cls := .type "enumerate", data := .fields #[.none, .bool false, .ref s.heap.objs.size, rawInt 0, .none, .none] } }) :=
  .of_wp fun prog w A R s h => by
    obtain ⟨hp, g, d, tk, os⟩ := s; obtain ⟨hl, h⟩ := h
    have hsub := sub_enumerate
    have hL : Heap.IsTuple (Shared.heap ⟨hp, g, d, tk, os⟩) l items := ⟨_, hl, rfl, n, rfl⟩
    wp_walk using wpAny_loadPart' hl
    refine wpAny_stack_any fun st => wpAny_pure ?_
    split
    · rename_i c _ _ _ _ _
      cases (c == Value.type "enumerate")
      · wp_walk using wpAny_loadPart' hl, wpAny_pyIter_tuple hL
        exact ⟨_, rfl, h⟩
      · wp_walk using wpAny_loadPart' hl, wpAny_pyIter_tuple hL
        exact ⟨_, rfl, h⟩
    · wp_walk using wpAny_loadPart' hl, wpAny_pyIter_tuple hL
      exact ⟨_, rfl, h⟩
section
variable {prog : Program} {w : World} {A : Around} {E : Value → Shared → Prop} {s : Shared}
theorem pxCall_enumerate_tuple {l : Addr} {items : Array Value} {Q : Value → Shared → Prop} (hL : s.heap.IsTuple l items)
    (h : ∀ h', IsEnum h' (s.heap.objs.size + 1) s.heap.objs.size 0 .none → h'.IsTupleIter s.heap.objs.size l 0 → h'.objs.size = s.heap.objs.size + 2 →
      (∀ b o, s.heap.get? b = some o → h'.get? b = some o) → Q (.ref (s.heap.objs.size + 1)) { s with heap := h' }) :
    wpAny (model prog w) A (call (.type "enumerate") [.ref l]) Q E s := by
  obtain ⟨⟨c, dct, dt, sl⟩, hl, hc, n, hd⟩ := hL
  replace hc : c = .type "tuple" := hc
  replace hd : dt = .seq items n := hd
  subst hc hd
  refine callType_new F.called_enumerate (by decide) (F.typeCall_enumerate_1 _) (F.newCall_enumerate_1 _) (fun obj => F.args_object_init_2 obj _) F.entry_enumerate_new
    (pxMeets_enumerate_newT l items n dct sl) ⟨hl, ?_⟩
  have hz : (s.heap.push { cls := .type "tuple_iterator", data := .fields #[.ref l, .int 0 0] }).objs.size = s.heap.objs.size + 1 := Heap.size_push ..
  show _ ∧ _
  rw [hz]
  have he : IsEnum ((s.heap.push { cls := .type "tuple_iterator", data := .fields #[.ref l, .int 0 0] }).push
      { cls := .type "enumerate", data := .fields #[.none, .bool false, .ref s.heap.objs.size, rawInt 0, .none, .none] }) (s.heap.objs.size + 1) s.heap.objs.size 0 .none := by
    have := Heap.get?_push_size (s.heap.push { cls := .type "tuple_iterator", data := .fields #[.ref l, .int 0 0] })
      (o := { cls := .type "enumerate", data := .fields #[.none, .bool false, .ref s.heap.objs.size, rawInt 0, .none, .none] }) rfl
    rw [hz] at this; exact this
  refine ⟨⟨_, he, rfl⟩, h _ he ⟨_, Heap.get?_push_of_some _ (Heap.get?_push_size _ rfl), rfl, rfl⟩ (by rw [Heap.size_push, hz]) fun b o x => Heap.get?_push_of_some _ (Heap.get?_push_of_some _ x)⟩
end
end PySem
namespace L2.Px
open PySem PySem.Spec PyProof.Rows StX
/-- the tuple at a, each item in a new pair -/
def IteT (K : PySem.W.Frag) (a : Addr) : It :=
  ⟨fun i H => ∃ (xs : List V) (x : V), SqT K H a xs ∧ xs[i]? = some x, fun i H v H' => ∃ T x, v = .ref T ∧ H T = none ∧ H' = upd H T (.tup [.int (i : Nat), x]) ∧ ∀ xs, SqT K H a xs → xs[i]? = some x, fun i H => ∃ xs : List V, SqT K H a xs ∧ xs.length ≤ i⟩
theorem turn_enumT {P : Program} {w : World} {K : PySem.W.Frag} {elts : List Expr} {kk : Nat} {tpos : Pos} (a e it : Addr) :
    Turn P w K (.Tuple elts kk tpos) (IteT K a) [e, it] e (fun i h => (∃ old, IsEnum h e it ((i : Nat) : Int) old) ∧ h.IsTupleIter it a i ∧ e ≠ it) where
  mem := by simp
  obj := fun i h st b hb => by
    obtain ⟨⟨old, he⟩, ⟨o, ho, hc, hd⟩, _⟩ := st
    have e' : b = e ∨ b = it := by simpa using hb
    rcases e' with z | z
    · rw [z]; exact ⟨_, he, fun v q => nomatch q⟩
    · rw [z]; exact ⟨o, ho, fun v q => by rw [hd] at q; cases q⟩
  keep := fun i h h' st k => let ⟨⟨old, he⟩, hi, hne⟩ := st; ⟨⟨old, k e (by simp) _ he⟩, hi.at fun o q => k it (by simp) o q, hne⟩
  item := by
    intro X hP hw hK hc i pins s σ H E I hf st hg
    subst hP hw hK
    obtain ⟨⟨old, he⟩, hit, hne⟩ := st
    obtain ⟨xs, x, hq, hx⟩ := hg
    obtain ⟨its, rv, p, hz⟩ := I.tuple hq
    obtain ⟨u, hu, ru⟩ := rv.get hx
    have hel : e < s.heap.objs.size := Heap.lt_size he
    have hil : it < s.heap.objs.size := by obtain ⟨_, q, _⟩ := hit; exact Heap.lt_size q
    have hh : X.A.handled = none := I.ok.hd hc
    have hait : a ≠ it := by
      rintro rfl
      obtain ⟨o1, q1, c1, _⟩ := p
      obtain ⟨o2, q2, c2, _⟩ := hit
      rw [q1] at q2; cases q2; rw [c1] at c2; exact absurd (Value.type.inj c2) (by decide)
    have hae : e ≠ a := by
      rintro rfl
      obtain ⟨o1, q1, c1, _⟩ := p
      have he' : s.heap.get? e = some _ := he
      rw [q1] at he'; cases he'; exact absurd (Value.type.inj c1) (by decide)
    have hi : i < its.toArray.size := by
      rw [List.size_toArray]
      exact (List.getElem?_eq_some_iff.mp hu).1
    refine wpAny_pyNext_enum_itemD (Draws.tuple (A := X.A.in1) hh it a hait its.toArray) he ⟨hit, p⟩ hi hne (by simp [hne, hae]) fun u' h' tk hu' ho hit' hT hsz hk => ?_
    have eu : u' = u := by
      have q : its[i]? = some u' := by simpa using hu'
      rw [hu] at q; exact (Option.some.inj q).symm
    subst eu
    refine ⟨_, rfl, wpAny_letOwnedTupleGo_enum (s := { s with heap := h', toks := tk + 1 }) ho fun h'' he' sb => ?_⟩
    have hT2 : h''.get? s.heap.objs.size = some { cls := .type "tuple", data := .seq #[.int i tk, u'] } := (sb.2 _ (Nat.ne_of_gt hel)).trans hT
    have new : ObjOk X.prog X.w (upd H s.heap.objs.size (.tup [.int (i : Nat), x])) h'' s.heap.objs.size (.tup [.int (i : Nat), x]) :=
      ⟨by show 2 ≤ sizeLine; decide, [.int i tk, u'], .cons ⟨_, rfl⟩ (.cons ru .nil), ⟨_, hT2, rfl, _, rfl⟩⟩
    have I1 : Inv X pins σ (upd H s.heap.objs.size (.tup [.int (i : Nat), x])) { s with heap := h'', toks := tk + 1 } :=
      I.turnedNew (ch := [e, it]) (fun b ob hb q => (sb.2 b (fun z => hb (by simp [z]))).trans (hk b ob (fun z => hb (by simp [z])) (fun z => hb (by simp [z])) q)) hf (Nat.le_refl _) new
    refine ⟨.ref s.heap.objs.size, _, I1, rfl, ⟨_, x, rfl, I.hok.fresh (Nat.le_refl _), rfl, fun ys hy => by rw [I.tuple_inj hy hq]; exact hx⟩, ⟨⟨u', ?_⟩, hit'.1.at fun o q => (sb.2 it (Ne.symm hne)).trans q, hne⟩, fun b hb => ?_⟩
    · have e1 : ((i + 1 : Nat) : Int) = (i : Int) + 1 := by omega
      rw [e1]; exact he'
    · have hb' : b < s.heap.objs.size := by
        have e' : b = e ∨ b = it := by simpa using hb
        rcases e' with z | z
        · rw [z]; exact hel
        · rw [z]; exact hil
      rw [upd_ne (Nat.ne_of_lt hb')]
      exact (hf b hb).1
  done := by
    intro X hP hw hK hc i pins s σ H E I hf st hg
    subst hP hw hK
    obtain ⟨⟨old, he⟩, hit, hne⟩ := st
    obtain ⟨xs, hq, hx⟩ := hg
    obtain ⟨its, rv, p, hz⟩ := I.tuple hq
    obtain ⟨f0, f1, f2, f3, f4, f5⟩ := hf it (by simp)
    have hh : X.A.handled = none := I.ok.hd hc
    have hn : its.toArray[i]? = none := by
      have hl := rv.length
      simp; omega
    have hT : s.TypeIs (.ref e) "enumerate" := ⟨_, he, rfl⟩
    unfold pyNext
    refine wpAny_bind (wpAny_attempt (wpAny_callSpecial?_slot (name := Str.ofString "__next__") hT F.slot_enumerate_next
      (wpAny_call_entry F.slot_enumerate_next hT F.entry_enumerate_next ?_ (F.args_enumerate_next_1 _))))
    show wpAny _ _ (field (.ref e) 2 >>= _) _ _ _
    refine wpAny_bind (wpAny_field he rfl (x := .ref it) rfl ?_)
    refine wpAny_bind (wpAny_nextOf_tuple_end hh hit p hn fun h' x he' hx' => ?_)
    obtain ⟨o, ho, hc'⟩ := hx'
    refine wpAny_bind (wpAny_isInstance (T := "StopIteration") (b := true) ⟨o, ho, hc'⟩ isSubtype_stop ?_)
    exact wpAny_pure ⟨rfl, I.turned (t' := s.toks) (fun b o hb q => he' b o hb q) f0 f1 f3 f4 f5⟩
  self := fun A i s Q E st h => let ⟨⟨_, he⟩, _⟩ := st; wpAny_pyIter_enum he h
def iEnumT (K : PySem.W.Frag) (ta : TA) : TI := fun σ H R => ta σ H fun vs H1 => ∃ a xs, vs = [.ref a] ∧ SqT K H1 a xs ∧ R (IteT K a) H1
theorem pi_enumT {X : Cx} {e : Expr} {ta : TA} {p pos tpos : Pos} {elts : List Expr} {kk : Nat} (hm : X.mg "enumerate" = none) (ha : PA X [e] ta) (hg : Gl X "enumerate" := by rfl) (hs : starEach [e] X.env = [(false, eval e X.env)] := by rfl) :
    PI X (.Tuple elts kk tpos) (.Call (.Name "enumerate" p) [e] [] pos) (iEnumT X.K ta) := by
  refine ⟨fun pins s σ H R I h => ?_⟩
  refine Call_ (ld_blt I hg hm boot_enumerate (PyProof.Rows.callWith_type1 (thn (ha.run pos pins s σ H _ I h) fun us s1 ⟨vs, H1, I1, r1, q1⟩ => ?_) hs rfl))
  obtain ⟨a, xs, ex, hq, q⟩ := q1
  subst ex
  cases r1 with
  | cons r rr =>
    cases rr
    cases r
    obtain ⟨its, rv, p', hz⟩ := I1.tuple hq
    refine pxCall_enumerate_tuple (show s1.heap.IsTuple a its.toArray from p') fun h' he hit hsz hk => wpAny_pyIter_enum he ?_
    have I2 : Inv X pins σ H1 { s1 with heap := h' } := I1.kept (t' := s1.toks) hk
    refine ⟨s1.heap.objs.size + 1, [s1.heap.objs.size + 1, s1.heap.objs.size], _, _, H1, rfl, I2, turn_enumT a (s1.heap.objs.size + 1) s1.heap.objs.size, ⟨⟨.none, he⟩, hit, Nat.succ_ne_self _⟩, fun b hb => ?_, q⟩
    have e' : b = s1.heap.objs.size + 1 ∨ b = s1.heap.objs.size := by simpa using hb
    have hle : s1.heap.objs.size ≤ b := by
      rcases e' with z | z
      · rw [z]; exact Nat.le_add_right _ _
      · rw [z]; exact Nat.le_refl _
    exact I1.fpOk hle (I1.hok.fresh hle)
/-- the loop over such a walk: the pair is new at T -/
theorem for_enumT {K : PySem.W.Frag} {a : Addr} {xs : List V} {g : TG} {tb : TS} {D : Ends} {σ : St} {H : Hp} (Pv : Nat → St → Hp → Prop) (h0 : Pv 0 σ H) (hl : ∀ i σ H, i ≤ xs.length → Pv i σ H → SqT K H a xs)
    (hs : ∀ i x T σ H, xs[i]? = some x → Pv i σ H → H T = none → g (.ref T) σ (upd H T (.tup [.int (i : Nat), x])) fun σ2 H2 => tb { D with nx := Pv (i + 1), ct := Pv (i + 1), bk := D.nx } σ2 H2) (hd : ∀ σ H, Pv xs.length σ H → D.nx σ H) :
    ∃ W : Nat → Nat → St → Hp → Prop, (∃ m, W 0 m σ H) ∧ ∀ i m σ H, W i m σ H →
      ((IteT K a).stop i H ∧ D.nx σ H) ∨ ((IteT K a).go i H ∧ ∃ N : St → Hp → Prop, (∀ σ' H', N σ' H' → ∃ m', m' < m ∧ W (i + 1) m' σ' H') ∧ ∀ x H', (IteT K a).yld i H x H' → g x σ H' fun σ2 H2 => tb { D with nx := N, ct := N, bk := D.nx } σ2 H2) := by
  refine ⟨fun i m σ H => m = xs.length - i ∧ i ≤ xs.length ∧ Pv i σ H, ⟨xs.length, by simp, Nat.zero_le _, h0⟩, ?_⟩
  rintro i m σ H ⟨rfl, hi, p⟩
  have q := hl i σ H hi p
  by_cases hlt : i < xs.length
  · refine .inr ⟨⟨xs, xs[i], q, by simp [hlt]⟩, Pv (i + 1), fun σ' H' p' => ⟨xs.length - (i + 1), by omega, rfl, hlt, p'⟩, fun x H' y => ?_⟩
    obtain ⟨T, z, rfl, hT, rfl, y⟩ := y
    exact hs i z T σ H (y xs q) p hT
  · have e : i = xs.length := by omega
    subst e
    exact .inl ⟨⟨xs, q, Nat.le_refl _⟩, hd σ H p⟩
end L2.Px
set_option Elab.async false
set_option linter.all false
set_option maxRecDepth 100000
set_option maxHeartbeats 1000000
namespace L2.Px
open PySem PySem.Spec PyProof.Rows StX
section
variable {X : Cx}
def rAddS : R2 := fun x y H Q => ∃ i j, x = .str i ∧ y = .str j ∧ i.length + j.length ≤ sizeLine ∧ Q (.str (i ++ j)) H
def rAddA (K : PySem.W.Frag) : R2 := fun x y H Q => rI0 (fun i j => .int (i + j)) x y H Q ∨ rAddS x y H Q ∨ rCat x y H Q
theorem oAdd : OpR X (binaryOp .Add) (rAddA X.K) := op_add.or (op_add_str.or op_cat)
def rMulA : R2 := fun x y H Q => rI CMul (fun i j => .int (i * j)) x y H Q ∨ rRep x y H Q
theorem oMul : OpR X (binaryOp .Mult) rMulA := op_mul.or op_rep
def rEqA (K : PySem.W.Frag) : R2 := fun x y H Q => rEq x y H Q ∨ rEqD K x y H Q
def rNeA (K : PySem.W.Frag) : R2 := fun x y H Q => rNe x y H Q ∨ rNeD K x y H Q
theorem oEq (hu : X.A.units + 64 < cLine) : OpR X (compareOp .Eq) (rEqA X.K) := op_eq.or (op_eqD hu)
theorem oNe (hu : X.A.units + 64 < cLine) : OpR X (compareOp .NotEq) (rNeA X.K) := op_ne.or (op_neD hu)
end
section
variable {K : PySem.W.Frag} {σ : St} {H : Hp} {Q : VK} {i j : Int} {x y : Str} {a b : Addr} {xs ys : List V} {p q : Prop} {A B : Prop} {c : Bool} {v : V}
theorem rd_add_int (h : Q (.int (i + j)) H) : rAddA K (.int i) (.int j) H Q := .inl ⟨i, j, rfl, rfl, h⟩
theorem rd_add_str (hz : x.length + y.length ≤ sizeLine) (h : Q (.str (x ++ y)) H) : rAddA K (.str x) (.str y) H Q := .inr (.inl ⟨x, y, rfl, rfl, hz, h⟩)
theorem rd_add_lst (ha : H a = some (.lst xs)) (hb : H b = some (.lst ys)) (hz : xs.length + ys.length ≤ sizeLine) (h : ∀ p, H p = none → Q (.ref p) (upd H p (.lst (xs ++ ys)))) : rAddA K (.ref a) (.ref b) H Q := .inr (.inr ⟨a, b, xs, ys, rfl, rfl, ha, hb, hz, h⟩)
theorem rd_mul_int (hc : CMul i j) (h : Q (.int (i * j)) H) : rMulA (.int i) (.int j) H Q := .inl ⟨i, j, rfl, rfl, hc, h⟩
theorem rd_eq_scal {v w : V} (hs : scal v w = true) (h : Q (.bl (decide (v = w))) H) : rEqA K v w H Q := .inl ⟨hs, h⟩
theorem rd_ne_scal {v w : V} (hs : scal v w = true) (h : Q (.bl (!decide (v = w))) H) : rNeA K v w H Q := .inl ⟨hs, h⟩
theorem dec_int (i j : Int) : decide (V.int i = V.int j) = decide (i = j) := by rw [L2.dec_int, Bool.beq_eq_decide_eq]
theorem dec_str (x y : Str) : decide (V.str x = V.str y) = decide (x = y) := by rw [L2.dec_str, Bool.beq_eq_decide_eq]
theorem dec_bl (x y : Bool) : decide (V.bl x = V.bl y) = decide (x = y) := by rw [L2.dec_bl, Bool.beq_eq_decide_eq]
theorem rd_eq_int (h : Q (.bl (decide (i = j))) H) : rEqA K (.int i) (.int j) H Q := rd_eq_scal rfl (by rw [dec_int]; exact h)
theorem rd_eq_str (h : Q (.bl (decide (x = y))) H) : rEqA K (.str x) (.str y) H Q := rd_eq_scal rfl (by rw [dec_str]; exact h)
theorem rd_eq_bl {c d : Bool} (h : Q (.bl (decide (c = d))) H) : rEqA K (.bl c) (.bl d) H Q := rd_eq_scal rfl (by rw [dec_bl]; exact h)
theorem rd_ne_int (h : Q (.bl (!decide (i = j))) H) : rNeA K (.int i) (.int j) H Q := rd_ne_scal rfl (by rw [dec_int]; exact h)
theorem rd_ne_str (h : Q (.bl (!decide (x = y))) H) : rNeA K (.str x) (.str y) H Q := rd_ne_scal rfl (by rw [dec_str]; exact h)
theorem rd_ne_bl {c d : Bool} (h : Q (.bl (!decide (c = d))) H) : rNeA K (.bl c) (.bl d) H Q := rd_ne_scal rfl (by rw [dec_bl]; exact h)
theorem rd_eq_dat {d e : PyData} {v w : V} (hd : Dp K H v d) (he : Dp K H w e) (sd : SeqAt.shaped d = true) (se : SeqAt.shaped e = true) (h : Q (.bl (PyData.eqv d e)) H) : rEqA K v w H Q := .inr ⟨d, e, hd, he, sd, se, h⟩
theorem rd_ne_dat {d e : PyData} {v w : V} (hd : Dp K H v d) (he : Dp K H w e) (sd : SeqAt.shaped d = true) (se : SeqAt.shaped e = true) (h : Q (.bl (!PyData.eqv d e)) H) : rNeA K v w H Q := .inr ⟨d, e, hd, he, sd, se, h⟩
theorem rd_sub (h : Q (.int (i - j)) H) : rI0 (fun i j => .int (i - j)) (.int i) (.int j) H Q := ⟨i, j, rfl, rfl, h⟩
theorem rd_I0 {g : Int → Int → V} (h : Q (g i j) H) : rI0 g (.int i) (.int j) H Q := ⟨i, j, rfl, rfl, h⟩
theorem rd_I {C : Int → Int → Prop} {g : Int → Int → V} (hc : C i j) (h : Q (g i j) H) : rI C g (.int i) (.int j) H Q := ⟨i, j, rfl, rfl, hc, h⟩
theorem rd_bl {R : Bool → Prop} (h : R c) : ∃ k, V.bl c = .bl k ∧ R k := ⟨c, rfl, h⟩
theorem rd_dT [Decidable p] (h : p) (a : A) : if decide p = true then A else B := by rw [if_pos (decide_eq_true h)]; exact a
theorem rd_dF [Decidable p] (h : ¬ p) (b : B) : if decide p = true then A else B := by rw [if_neg (by simp [h])]; exact b
theorem rd_nT [Decidable p] (h : ¬ p) (a : A) : if (!decide p) = true then A else B := by rw [if_pos (by simp [h])]; exact a
theorem rd_nF [Decidable p] (h : p) (b : B) : if (!decide p) = true then A else B := by rw [if_neg (by simp [h])]; exact b
theorem rd_cT (h : c = true) (a : A) : if c = true then A else B := by rw [if_pos h]; exact a
theorem rd_cF (h : c = false) (b : B) : if c = true then A else B := by rw [h, if_neg Bool.false_ne_true]; exact b
theorem rd_ite [Decidable p] (a : p → A) (b : ¬ p → B) : if decide p = true then A else B := by
  by_cases h : p
  · exact rd_dT h (a h)
  · exact rd_dF h (b h)
theorem rd_iteN [Decidable p] (a : ¬ p → A) (b : p → B) : if (!decide p) = true then A else B := by
  by_cases h : p
  · exact rd_nF h (b h)
  · exact rd_nT h (a h)
theorem rd_iteC (a : c = true → A) (b : c = false → B) : if c = true then A else B := by
  cases c with
  | true => exact rd_cT rfl (a rfl)
  | false => exact rd_cF rfl (b rfl)
variable {te ta tb tc' : TE} {t : TA} {tt uu : TT} {sp : Sp} {E : XK} {r r' : R2} {n : Nat} {f m : Str} {C dx : Addr} {fs : List (Str × V)}
theorem rd_var (h : σ[n]? = some (some v)) (q : Q v H) : tVar n σ H Q := ⟨v, h, q⟩
theorem rd_C (q : Q v H) : tC v σ H Q := q
theorem rd_op (h : ta σ H fun x H1 => tb σ H1 fun y H2 => r x y H2 Q) : tOp r ta tb σ H Q := h
theorem rd_test {R : Bool → Hp → Prop} (h : te σ H fun x H' => ∃ k, x = .bl k ∧ R k H') : tTest te σ H R := h
theorem rd_tB {R : Bool → Hp → Prop} (h : te σ H fun x H' => ∃ k, x = .bl k ∧ R k H') : tB te σ H R := h
theorem rd_chain (h : ta σ H fun x H1 => tb σ H1 fun y H2 => r x y H2 fun z H3 => ∃ k, z = .bl k ∧ (if k = true then tc' σ H3 fun w' H4 => r' y w' H4 Q else Q (.bl false) H3)) : tChain r r' ta tb tc' σ H Q := h
theorem rd_and {R : Bool → Hp → Prop} (h : tt σ H fun c H1 => if c = true then uu σ H1 R else R false H1) : tAnd tt uu σ H R := h
theorem rd_or {R : Bool → Hp → Prop} (h : tt σ H fun c H1 => if c = true then R true H1 else uu σ H1 R) : tOr tt uu σ H R := h
theorem rd_not {R : Bool → Hp → Prop} (h : tt σ H fun c H1 => R (!c) H1) : tNot tt σ H R := h
theorem rd_andV (h : ta σ H fun x H1 => ∃ k, x = .bl k ∧ (if k = true then tb σ H1 Q else Q (.bl false) H1)) : tAndV ta tb σ H Q := h
theorem rd_orV (h : ta σ H fun x H1 => ∃ k, x = .bl k ∧ (if k = true then Q (.bl true) H1 else tb σ H1 Q)) : tOrV ta tb σ H Q := h
theorem rd_notV (h : ta σ H fun x H1 => ∃ k, x = .bl k ∧ Q (.bl (!k)) H1) : tNotV ta σ H Q := h
theorem rd_if (h : tt σ H fun c H1 => if c = true then ta σ H1 Q else tb σ H1 Q) : tIf tt ta tb σ H Q := h
theorem rd_g (h : t σ H fun vs H1 => sp vs H1 Q E) : tG sp E t σ H Q := h
theorem rd_m (h : ta σ H fun x H1 => ∃ a, x = .ref a ∧ InsM H1 a C m ∧ t σ H1 fun vs H2 => sp (x :: vs) H2 Q E) : tM C m sp E ta t σ H Q := h
theorem rd_m_at (i : InsM H a C m) (h : t σ H fun vs H2 => sp (.ref a :: vs) H2 Q E) : ∃ a', V.ref a = .ref a' ∧ InsM H a' C m ∧ t σ H fun vs H2 => sp (V.ref a :: vs) H2 Q E := ⟨a, rfl, i, h⟩
theorem rd_nil {R : List V → Hp → Prop} (h : R [] H) : tNil σ H R := h
theorem rd_cons {R : List V → Hp → Prop} (h : te σ H fun x H1 => t σ H1 fun xs H2 => R (x :: xs) H2) : tCons te t σ H R := h
theorem rd_star {R : List V → Hp → Prop} (h : te σ H fun x H1 => ∃ p xs, x = V.ref p ∧ (SqT K H1 p xs ∨ SqL K H1 p xs) ∧ t σ H1 fun ys H2 => R (xs ++ ys) H2) : tStar K te t σ H R := h
theorem rd_tup (h : t σ H fun xs H1 => xs.length ≤ sizeLine ∧ ∀ p, H1 p = none → Q (.ref p) (upd H1 p (.tup xs))) : tTup t σ H Q := h
theorem rd_lst (h : t σ H fun xs H1 => xs.length ≤ sizeLine ∧ ∀ p, H1 p = none → Q (.ref p) (upd H1 p (.lst xs))) : tLst t σ H Q := h
def rFld (K : PySem.W.Frag) (f : Str) (x : V) (H1 : Hp) (Q : VK) : Prop := ∃ a C dx fs v, x = .ref a ∧ H1 a = some (.ins C dx fs) ∧ Cls K C ∧ NoAttr K C f ∧ fs.lookup f = some v ∧ Q v H1
theorem rd_fld (h : te σ H fun x H1 => rFld K f x H1 Q) : tFld K te f σ H Q := h
theorem rd_fld_at (e : H a = some (.ins C dx fs)) (c : Cls K C) (nn : NoAttr K C f) (l : fs.lookup f = some v) (q : Q v H) : rFld K f (.ref a) H Q := ⟨a, C, dx, fs, v, rfl, e, c, nn, l, q⟩
theorem rd_cb {rr : List V → Hp → VK → Prop} (h : t σ H fun vs H1 => rr vs H1 Q) : tCB rr t σ H Q := h
theorem rd_un {ru : V → Hp → VK → Prop} (h : ta σ H fun x H1 => ru x H1 Q) : tUn ru ta σ H Q := h
def rMk (C : Addr) (sp : Sp) (E : XK) (vs : List V) (H1 : Hp) (Q : VK) : Prop := ∀ x dx, H1 x = Option.none → H1 dx = Option.none → dx ≠ x → sp (V.ref x :: vs) (upd (upd H1 dx (.own x)) x (.ins C dx [])) (fun v H2 => v = .non ∧ Q (.ref x) H2) E
theorem rd_makeR (h : t σ H fun vs H1 => rMk C sp E vs H1 Q) : tMakeR C sp E t σ H Q := h
def rMkS (K : PySem.W.Frag) (C : Addr) (sp : Sp) (E : XK) (y : V) (H1 : Hp) (Q : VK) : Prop := ∃ a xs, y = V.ref a ∧ (SqT K H1 a xs ∨ SqL K H1 a xs) ∧ rMk C sp E xs H1 Q
theorem rd_makeS (h : ta σ H fun c H0 => c = V.ref C ∧ te σ H0 fun y H1 => rMkS K C sp E y H1 Q) : tMakeS K C sp E ta te σ H Q := h
theorem rd_mkS (hq : SqT K H a xs ∨ SqL K H a xs) (h : rMk C sp E xs H Q) : rMkS K C sp E (.ref a) H Q := ⟨a, xs, rfl, hq, h⟩
theorem rd_bm {T : String} {rm : V → List V → Hp → VK → Prop} (h : te σ H fun x H1 => tyV K T x H1 ∧ t σ H1 fun xs H2 => rm x xs H2 Q) : tBM K T rm te t σ H Q := h
theorem rd_bm0 {T : String} {rm : V → List V → Hp → VK → Prop} (h : te σ H fun x H1 => tyV K T x H1 ∧ rm x [] H1 Q) : tBM0 K T rm te σ H Q := h
theorem rd_ixI (h : Q v H) (hx : SqL K H a xs) (e : atI xs i = some v) : rIx K (.ref a) (.int i) H Q := .inl ⟨a, xs, i, v, rfl, rfl, hx, e, h⟩
theorem rd_ixT (h : Q v H) (hx : SqT K H a xs) (e : atI xs i = some v) : rIx K (.ref a) (.int i) H Q := .inr (.inl ⟨a, xs, i, v, rfl, rfl, hx, e, h⟩)
variable {nx ct bk : St → Hp → Prop} {rt : VK} {st su : TS} {D : Ends} {vs : List V} {g : TG} {gs : TGs} {R : St → Hp → Prop}
theorem rd_seq (h : st ⟨su ⟨nx, rt, bk, ct⟩, rt, bk, ct⟩ σ H) : tSeq st su ⟨nx, rt, bk, ct⟩ σ H := h
theorem rd_next (h : nx σ H) : tNext ⟨nx, rt, bk, ct⟩ σ H := h
theorem rd_break (h : bk σ H) : tBreak ⟨nx, rt, bk, ct⟩ σ H := h
theorem rd_cont (h : ct σ H) : tCont ⟨nx, rt, bk, ct⟩ σ H := h
theorem rd_ret (h : te σ H rt) : tRet te ⟨nx, rt, bk, ct⟩ σ H := h
theorem rd_retN (h : rt .non H) : tRetN ⟨nx, rt, bk, ct⟩ σ H := h
theorem rd_drop (h : te σ H fun _ H1 => nx σ H1) : tDrop te ⟨nx, rt, bk, ct⟩ σ H := h
theorem rd_ifS (h : tt σ H fun b H1 => if b = true then st D σ H1 else su D σ H1) : tIfS tt st su D σ H := h
theorem rd_asg (h : te σ H fun x H1 => g x σ H1 nx) : tAsg te g ⟨nx, rt, bk, ct⟩ σ H := h
theorem rd_name (h : R (σ.set n (some v)) H) : gName n v σ H R := h
theorem rd_gtup (hq : SqT K H a xs) (hl : xs.length = n) (h : gs xs σ H R) : gTup K n gs (.ref a) σ H R := ⟨a, xs, rfl, hq, hl, h⟩
theorem rd_gnil (h : R σ H) : gNil [] σ H R := ⟨rfl, h⟩
theorem rd_gcons (h : g v σ H fun σ' H' => gs vs σ' H' R) : gCons g gs (v :: vs) σ H R := ⟨v, vs, rfl, h⟩
theorem rd_gsub {s : TSet} (h : ta σ H fun o H1 => tb σ H1 fun i H2 => s o i v H2 fun H3 => R σ H3) : gSub ta tb s v σ H R := h
theorem rd_setL {P : Hp → Prop} {j : Nat} (ha : H a = some (.lst xs)) (hj : ixN xs.length i = some j) (h : P (upd H a (.lst (xs.set j v)))) : rSetL (.ref a) (.int i) v H P := ⟨a, xs, i, j, rfl, rfl, ha, hj, h⟩
theorem rd_aug {ti : TIp} (h : σ[n]? = some (some v)) (q : te σ H fun y H1 => ti v y H1 fun z H2 => nx (σ.set n (some z)) H2) : tAug n te ti ⟨nx, rt, bk, ct⟩ σ H := ⟨v, h, q⟩
theorem rd_ipI {fn : Int → Int → Int} (h : Q (.int (fn i j)) H) : ipI fn (.int i) (.int j) H Q := ⟨i, j, rfl, rfl, h⟩
def rSFld (K : PySem.W.Frag) (f : Str) (y x : V) (H2 : Hp) (k : Hp → Prop) : Prop := ∃ a C dx fs, x = .ref a ∧ H2 a = some (.ins C dx fs) ∧ Cls K C ∧ NoAttr K C f ∧ fs.length < 1000 ∧ k (upd H2 a (.ins C dx (putF f y fs)))
theorem rd_sfld (h : tb σ H fun y H1 => ta σ H1 fun x H2 => rSFld K f y x H2 (nx σ)) : sFld K ta tb f ⟨nx, rt, bk, ct⟩ σ H := h
theorem rd_sfld_at {y : V} {k : Hp → Prop} (e : H a = some (.ins C dx fs)) (c : Cls K C) (nn : NoAttr K C f) (l : fs.length < 1000) (h : k (upd H a (.ins C dx (putF f y fs)))) : rSFld K f y (.ref a) H k := ⟨a, C, dx, fs, rfl, e, c, nn, l, h⟩
theorem rd_for {wi : TI} (h : wi σ H fun J H1 => ∃ W : Nat → Nat → St → Hp → Prop, (∃ m, W 0 m σ H1) ∧ ∀ i m σ H, W i m σ H →
  (J.stop i H ∧ D.nx σ H) ∨ (J.go i H ∧ ∃ N : St → Hp → Prop, (∀ σ' H', N σ' H' → ∃ m', m' < m ∧ W (i + 1) m' σ' H') ∧ ∀ x H', J.yld i H x H' → g x σ H' fun σ2 H2 => st { D with nx := N, ct := N, bk := D.nx } σ2 H2)) : tFor wi g st D σ H := h
theorem rd_iList {Rr : It → Hp → Prop} (h : te σ H fun x H1 => ∃ a, x = .ref a ∧ (∃ xs, SqL K H1 a xs) ∧ Rr (Itl K a) H1) : iList K te σ H Rr := h
theorem rd_iTup {Rr : It → Hp → Prop} (h : te σ H fun x H1 => ∃ a, x = .ref a ∧ (∃ xs, SqT K H1 a xs) ∧ Rr (Itt K a) H1) : iTup K te σ H Rr := h
theorem rd_iRng1 {Rr : It → Hp → Prop} (h : t σ H fun vs H1 => ∃ j : Int, vs = [.int j] ∧ -(2 ^ 62) ≤ j ∧ j < 2 ^ 62 ∧ Rr (Itr 0 j.toNat) H1) : iRng1 t σ H Rr := h
theorem rd_iRng2 {Rr : It → Hp → Prop} (h : t σ H fun vs H1 => ∃ i j : Int, vs = [.int i, .int j] ∧ (-(2 ^ 62) ≤ i ∧ i < 2 ^ 62 ∧ -(2 ^ 62) ≤ j ∧ j < 2 ^ 62) ∧ Rr (Itr i (j - i).toNat) H1) : iRng2 t σ H Rr := h
theorem rd_iEnumT {Rr : It → Hp → Prop} (h : t σ H fun vs H1 => ∃ a xs, vs = [.ref a] ∧ SqT K H1 a xs ∧ Rr (IteT K a) H1) : iEnumT K t σ H Rr := h
theorem rd_match {tc : TC} (h : te σ H fun x H1 => tc x D σ H1) : tMatch te tc D σ H := h
theorem rd_par {l k : Nat} (h : t σ H fun vs H1 => ∃ v w, vs = [v, w] ∧ nx ((σ.set l (some v)).set k (some w)) H1) : tPar l k t ⟨nx, rt, bk, ct⟩ σ H := h
theorem rd_two {v w : V} {RR : V → V → Prop} (h : RR v w) : ∃ v' w', [v, w] = [v', w'] ∧ RR v' w' := ⟨v, w, rfl, h⟩
theorem rd_lc {wi : TI} {ws : List Nat} (h : wi σ H fun J H1 => ∀ D, H1 D = none → ∃ W : Nat → Nat → Hp → Prop, (∃ m, W 0 m (upd H1 D (.lst []))) ∧ ∀ i m H, W i m H →
  (J.stop i H ∧ Q (.ref D) H) ∨ (J.go i H ∧ ∃ Nx : Hp → Prop, (∀ H', Nx H' → ∃ m', m' < m ∧ W (i + 1) m' H') ∧ ∀ x H', J.yld i H x H' → g x (wipe σ ws) H' fun σ2 H2 => wipe σ2 ws = wipe σ ws ∧ tt σ2 H2 fun b H3 =>
    if b = true then te σ2 H3 fun y H4 => ∃ acc, H4 D = some (.lst acc) ∧ acc.length < sizeLine ∧ Nx (upd H4 D (.lst (acc ++ [y]))) else Nx H3)) : tLc wi g tt te ws σ H Q := h
theorem rd_yes {Rb : Bool → Hp → Prop} (h : Rb true H) : tYes σ H Rb := h
theorem Same.new {H H' : Hp} {p : Addr} {o : HO} (s : Same H H') (h : H' p = none) : Same H (upd H' p o) := fun b u e => by rw [upd_ne (ne_of_none (s b u e) h)]; exact s b u e
theorem Same.mut {H H' : Hp} {p : Addr} {o : HO} (s : Same H H') (h : H p = none) : Same H (upd H' p o) := fun b u e => by rw [upd_ne (ne_of_none e h)]; exact s b u e
theorem lk_new {o u : HO} {p : Addr} (h : H p = none) (e : H a = some u) : upd H p o a = some u := by rw [upd_ne (ne_of_none e h)]; exact e
theorem lk_ne {o u : HO} {p : Addr} (h : a ≠ p) (e : H a = some u) : upd H p o a = some u := by rw [upd_ne h]; exact e
theorem Same.tup {H H' : Hp} {K : PySem.W.Frag} {a : Addr} {xs : List V} (e : Same H H') (h : SqT K H a xs) : SqT K H' a xs := by
  rcases h with (h | ⟨o, h⟩) | h
  · exact .inl (.inl (e _ _ h))
  · exact .inl (.inr ⟨o, e _ _ h⟩)
  · exact .inr h
end
end L2.Px
set_option Elab.async false
set_option linter.all false
set_option maxRecDepth 100000
set_option maxHeartbeats 1000000
namespace L2.Px
open PySem PySem.Spec PyProof.Rows StX ClX
/-- the property f of the class at C -/
def DefP (K : PySem.W.Frag) (C : Addr) (f qual : Str) (st : Stmt) : Prop := ∃ p g fd, Fun K f qual st g fd ∧ PropOf K C f p g ∧ Binds K fd ["self"] []
def POk (P : Program) (w : World) (K : PySem.W.Frag) (mg : Str → Option Value) (base : Heap) (CX : CXT) (k : Nat) (C : Addr) (f : Str) (sp : Sp) : Prop :=
  ∃ p g fd, FnOk P w K mg base CX k g fd ["self"] sp ∧ PropOf K C f p g ∧ Binds K fd ["self"] []
/-- the classmethod m of the class at C -/
def DefC (K : PySem.W.Frag) (C : Addr) (m qual : Str) (st : Stmt) (ps : List Str) : Prop := ∃ mc p g fd, Fun K m qual st g fd ∧ CRead K C mc ∧ CMet K C mc m p g ∧ Binds K fd ps []
def COk (P : Program) (w : World) (K : PySem.W.Frag) (mg : Str → Option Value) (base : Heap) (CX : CXT) (k : Nat) (C : Addr) (m : Str) (sp : Sp) : Prop :=
  ∃ mc p g, FnR P w K mg base CX k g sp ∧ CRead K C mc ∧ CMet K C mc m p g
/-- __init__ of the class at C, all its parameters plain -/
def DefK (K : PySem.W.Frag) (C : Addr) (qual : Str) (st : Stmt) (ps : List Str) : Prop := ∃ f fd, Fun K "__init__" qual st f fd ∧ Mk K C f ∧ Binds K fd ps []
/-- __init__(self, *v) of the class at C -/
def DefKS (K : PySem.W.Frag) (C : Addr) (qual : Str) (st : Stmt) (ps : List Str) (pv : Str) : Prop := ∃ f fd, Fun K "__init__" qual st f fd ∧ Mk K C f ∧
  ∀ us rest : List Value, us.length = ps.length → bindArgs fd ⟨us ++ rest, []⟩ = (newTuple rest >>= fun t => pure (ps.zip us ++ [(pv, t)]))
/-- a def f(.., *v) -/
def DefGS (K : PySem.W.Frag) (mg : Str → Option Value) (x : Str) (st : Stmt) (ps : List Str) (pv : Str) : Prop := ∃ f fd, Fun K x x st f fd ∧ mg x = some (.ref f) ∧
  ∀ us rest : List Value, us.length = ps.length → bindArgs fd ⟨us ++ rest, []⟩ = (newTuple rest >>= fun t => pure (ps.zip us ++ [(pv, t)]))
/-- a def whose last parameters have defaults -/
def DefGD (K : PySem.W.Frag) (mg : Str → Option Value) (x : Str) (st : Stmt) (ps : List Str) (dvs : List V) : Prop := ∃ f fd ds, Fun K x x st f fd ∧ mg x = some (.ref f) ∧ Binds K fd ps ds ∧ Vals dvs ds
section
variable {P : Program} {w : World} {K : PySem.W.Frag} {mg : Str → Option Value} {base : Heap} {CX : CXT} {k : Nat} {f C : Addr} {fd : FuncData} {ps : List Str} {sp : Sp} {x m qual : Str} {st : Stmt}
theorem DefP.ok {N : List Str} (D : DefP K C m qual st) (S : FnScope N ["self"] (defScope st)) (len : ∀ vs H Q E, sp vs H Q E → vs.length = 1)
    (hbody : ∀ (f : Addr) (cdv : Value) (A : Around) (outer : List Env) (s : Shared) (H : Hp) (vs : List V) (Q : VK) (E : XK), Room k (A.deeper (envOfC qual (defScope st) s.heap.objs.size f cdv)) → sp vs H Q E →
      ∃ t, PSs (cxOf CX0 P w K mg base N qual (defScope st) f cdv A outer s H E).nox (defBody st) t ∧ t { nx := fun _ H' => Q .non H', rt := Q } (start N vs) H) : POk P w K mg base CX0 (k + 1) C m sp := by
  obtain ⟨p, g, fd, F, hp, b⟩ := D
  exact ⟨p, g, fd, F.ok S len fun cdv A outer s H vs Q E hr h => hbody g cdv A outer s H vs Q E hr h, hp, b⟩
theorem DefC.ok {N : List Str} (D : DefC K C m qual st ps) (S : FnScope N ps (defScope st)) (len : ∀ vs H Q E, sp vs H Q E → vs.length = ps.length)
    (hbody : ∀ (f : Addr) (cdv : Value) (A : Around) (outer : List Env) (s : Shared) (H : Hp) (vs : List V) (Q : VK) (E : XK), Room k (A.deeper (envOfC qual (defScope st) s.heap.objs.size f cdv)) → sp vs H Q E →
      ∃ t, PSs (cxOf CX0 P w K mg base N qual (defScope st) f cdv A outer s H E).nox (defBody st) t ∧ t { nx := fun _ H' => Q .non H', rt := Q } (start N vs) H) : COk P w K mg base CX0 (k + 1) C m sp := by
  obtain ⟨mc, p, g, fd, F, r, c, b⟩ := D
  exact ⟨mc, p, g, FnOk.toR (F.ok S len fun cdv A outer s H vs Q E hr h => hbody g cdv A outer s H vs Q E hr h) b, r, c⟩
theorem DefK.ok {N : List Str} (D : DefK K C qual st ps) (S : FnScope N ps (defScope st)) (len : ∀ vs H Q E, sp vs H Q E → vs.length = ps.length)
    (hbody : ∀ (f : Addr) (cdv : Value) (A : Around) (outer : List Env) (s : Shared) (H : Hp) (vs : List V) (Q : VK) (E : XK), Room k (A.deeper (envOfC qual (defScope st) s.heap.objs.size f cdv)) → sp vs H Q E →
      ∃ t, PSs (cxOf CX0 P w K mg base N qual (defScope st) f cdv A outer s H E).nox (defBody st) t ∧ t { nx := fun _ H' => Q .non H', rt := Q } (start N vs) H) : KOk P w K mg base CX0 (k + 1) C sp := by
  obtain ⟨f, fd, F, M, b⟩ := D
  exact ⟨f, FnOk.toR (F.ok S len fun cdv A outer s H vs Q E hr h => hbody f cdv A outer s H vs Q E hr h) b, M⟩
/-- the star promise around the body's own -/
def spStar (n : Nat) (sp : Sp) : Sp := fun vs H Q E => ∃ ws rest, vs = ws ++ rest ∧ ws.length = n ∧ rest.length ≤ sizeLine ∧ ∀ p, H p = Option.none → sp (ws ++ [V.ref p]) (upd H p (.tup rest)) Q E
theorem DefKS.ok {N : List Str} {pv : Str} (D : DefKS K C qual st ps pv) (S : FnScope N (ps ++ [pv]) (defScope st))
    (hbody : ∀ (f : Addr) (cdv : Value) (A : Around) (outer : List Env) (s : Shared) (H : Hp) (vs : List V) (Q : VK) (E : XK), Room k (A.deeper (envOfC qual (defScope st) s.heap.objs.size f cdv)) → sp vs H Q E →
      ∃ t, PSs (cxOf CX0 P w K mg base N qual (defScope st) f cdv A outer s H E).nox (defBody st) t ∧ t { nx := fun _ H' => Q .non H', rt := Q } (start N vs) H) : KOk P w K mg base CX0 (k + 1) C (spStar ps.length sp) := by
  obtain ⟨f, fd, F, M, hb⟩ := D
  obtain ⟨oc, od, kV, doc, pm, an, cdv, ct, osl, rfl, lk, hcd⟩ := F.ex
  refine ⟨f, fn_star (sp := sp) lk hcd S cxUp_none hb fun A outer s H vs Q E hr h => ?_, M⟩
  obtain ⟨t, ht, q⟩ := hbody f cdv A outer s H vs Q E hr h
  exact ⟨t, ht.nox, q⟩
theorem DefGS.ok {N : List Str} {pv : Str} (D : DefGS K mg x st ps pv) (S : FnScope N (ps ++ [pv]) (defScope st))
    (hbody : ∀ (f : Addr) (cdv : Value) (A : Around) (outer : List Env) (s : Shared) (H : Hp) (vs : List V) (Q : VK) (E : XK), Room k (A.deeper (envOfC x (defScope st) s.heap.objs.size f cdv)) → sp vs H Q E →
      ∃ t, PSs (cxOf CX0 P w K mg base N x (defScope st) f cdv A outer s H E).nox (defBody st) t ∧ t { nx := fun _ H' => Q .non H', rt := Q } (start N vs) H) : GOk P w K mg base CX0 (k + 1) x (spStar ps.length sp) := by
  obtain ⟨f, fd, F, a, hb⟩ := D
  obtain ⟨oc, od, kV, doc, pm, an, cdv, ct, osl, rfl, lk, hcd⟩ := F.ex
  refine ⟨f, fn_star (sp := sp) lk hcd S cxUp_none hb fun A outer s H vs Q E hr h => ?_, a, F.kp⟩
  obtain ⟨t, ht, q⟩ := hbody f cdv A outer s H vs Q E hr h
  exact ⟨t, ht.nox, q⟩
theorem DefGD.ok {N : List Str} {dvs : List V} (D : DefGD K mg x st ps dvs) (S : FnScope N ps (defScope st)) (len : ∀ vs H Q E, sp vs H Q E → vs.length = ps.length)
    (hbody : ∀ (f : Addr) (cdv : Value) (A : Around) (outer : List Env) (s : Shared) (H : Hp) (vs : List V) (Q : VK) (E : XK), Room k (A.deeper (envOfC x (defScope st) s.heap.objs.size f cdv)) → sp vs H Q E →
      ∃ t, PSs (cxOf CX0 P w K mg base N x (defScope st) f cdv A outer s H E).nox (defBody st) t ∧ t { nx := fun _ H' => Q .non H', rt := Q } (start N vs) H) : GOk P w K mg base CX0 (k + 1) x (fun vs => sp (vs ++ dvs)) := by
  obtain ⟨f, fd, ds, F, a, b, hd⟩ := D
  exact ⟨f, FnOk.toR1 (F.ok S len fun cdv A outer s H vs Q E hr h => hbody f cdv A outer s H vs Q E hr h) b hd, a, F.kp⟩
end
section
variable {X : Cx} {CX : CXT} {k : Nat} {C : Addr} {sp : Sp} {E : XK} {f m : Str} {e o : Expr} {es : List Expr} {te ta : TE} {t : TA} {p pos apos : Pos}
theorem pe_p (he : PE X e ta) (c : Cls X.K C) (G : POk X.prog X.w X.K X.mg X.base CX k C f sp) (hr : Room (k + 1) X.A) (hx : Passes CX X.nox E) (hab : attributeBase e f X.env (eval e X.env) = eval e X.env := by rfl) : PE X (.Attribute e f pos) (tProp C sp [] E ta) :=
  let ⟨_, _, _, F, hp, b⟩ := G
  pe_prop he c hp F hr b .nil hx hab
theorem pe_c {pl : Sem Bool} (he : PE X o ta) (G : COk X.prog X.w X.K X.mg X.base CX k C m sp) (hr : Room k X.A) (hx : Passes CX X E) (ha : PA X (e :: es) t)
    (hst : starEach (e :: es) X.env = (false, eval e X.env) :: starEach es X.env := by rfl) (hpl : (backTo pos (starEach es X.env)).any (·.1) = false := by rfl)
    (ht : eval (.Call (.Attribute o m apos) (e :: es) [] pos) X.env = (do
      let ov ← eval o X.env
      standAt apos.atName
      let (f, first) ← holding [ov] (getMethod ov m pl)
      callWith pos f first (backTo pos (starEach (e :: es) X.env)) (backToKw pos (keywordEach [] X.env))) := by rfl) :
    PE X (.Call (.Attribute o m apos) (e :: es) [] pos) (tCMeth C sp E ta t) :=
  let ⟨_, _, _, F, r, c⟩ := G
  pe_cmeth (pl := pl) he r c F hr hx ha hst hpl ht
theorem rd_prop {σ : St} {H : Hp} {Q : VK} (h : ta σ H fun x H1 => ∃ a dx fs, x = .ref a ∧ H1 a = some (.ins C dx fs) ∧ sp [.ref a] H1 Q E) : tProp C sp [] E ta σ H Q := h
theorem rd_prop_at {a : Addr} {H : Hp} {Q : VK} (i : InsA H a C) (h : sp [.ref a] H Q E) : ∃ a' dx fs, V.ref a = .ref a' ∧ H a' = some (.ins C dx fs) ∧ sp [.ref a'] H Q E := let ⟨dx, fs, e⟩ := i; ⟨a, dx, fs, rfl, e, h⟩
theorem rd_cmeth {σ : St} {H : Hp} {Q : VK} (h : ta σ H fun x H1 => x = .ref C ∧ t σ H1 fun vs H2 => sp (.ref C :: vs) H2 Q E) : tCMeth C sp E ta t σ H Q := h
/-- calling an instance -/
def OOk (P : Program) (w : World) (K : PySem.W.Frag) (mg : Str → Option Value) (base : Heap) (CX : CXT) (k : Nat) (C : Addr) (sp : Sp) : Prop := ∃ g, FnR P w K mg base CX k g sp ∧ CallO K C g
def tO (C : Addr) (sp : Sp) (E : XK) (tf : TE) (t : TA) : TE := fun σ H Q => tf σ H fun y H1 => ∃ a, y = V.ref a ∧ t σ H1 fun vs H2 => InsA H2 a C ∧ sp (V.ref a :: vs) H2 Q E
theorem pe_o {fe : Expr} (hf : PE X fe ta) (G : OOk X.prog X.w X.K X.mg X.base CX k C sp) (hr : Room k X.A) (hx : Passes CX X E) (ha : PA X (e :: es) t)
    (ht : eval (.Call fe (e :: es) [] pos) X.env = (do callWith pos (← eval fe X.env) [] (backTo pos (starEach (e :: es) X.env)) (backToKw pos (keywordEach [] X.env))) := by rfl)
    (he : starEach (e :: es) X.env = (false, eval e X.env) :: starEach es X.env := by rfl) (hpl : (backTo pos (starEach es X.env)).any (·.1) = false := by rfl) : PE X (.Call fe (e :: es) [] pos) (tO C sp E ta t) := by
  obtain ⟨g, F, c⟩ := G
  refine ⟨fun pins s σ H Q I h => ?_⟩
  refine Call_ (thn (hf.run pins s σ H _ I h) fun u s1 ⟨y, H1, I1, ry, a, ey, q⟩ => ?_) ht
  subst ey
  obtain rfl : u = Value.ref a := ry
  refine callO_with (thn (ha.run pos pins s1 σ H1 _ I1 q) fun us s2 ⟨vs, H2, I2, r, hi, q2⟩ => ?_) he hpl
  have hi' : StX.InsC X H2 a C := .inr hi
  obtain ⟨ox, od, J, hd⟩ := insC_at I2 hi'
  exact ⟨⟨C, ox, od, J, hd⟩, run_callO c F hr hx I2 hi' r q2⟩
theorem rd_o {σ : St} {H : Hp} {Q : VK} (h : ta σ H fun y H1 => ∃ a, y = V.ref a ∧ t σ H1 fun vs H2 => InsA H2 a C ∧ sp (V.ref a :: vs) H2 Q E) : tO C sp E ta t σ H Q := h
end
end L2.Px
namespace L2.Px
open PySem PySem.Spec PyProof.Rows StX ClX
def DefX (K : PySem.W.Frag) (R : Addr → Prop) (m qual : Str) (st : Stmt) (ps : List Str) : Prop := ∃ f fd, Fun K m qual st f fd ∧ R f ∧ Binds K fd ps []
def XOk (P : Program) (w : World) (K : PySem.W.Frag) (mg : Str → Option Value) (base : Heap) (CX : CXT) (k : Nat) (R : Addr → Prop) (sp : Sp) : Prop := ∃ f, FnR P w K mg base CX k f sp ∧ R f
section
variable {P : Program} {w : World} {K : PySem.W.Frag} {mg : Str → Option Value} {base : Heap} {CX : CXT} {k : Nat} {f C : Addr} {fd : FuncData} {ps : List Str} {sp : Sp} {x m qual : Str} {st : Stmt} {R : Addr → Prop}
theorem DefX.ok {N : List Str} (D : DefX K R m qual st ps) (S : FnScope N ps (defScope st)) (len : ∀ vs H Q E, sp vs H Q E → vs.length = ps.length)
    (hbody : ∀ (f : Addr) (cdv : Value) (A : Around) (outer : List Env) (s : Shared) (H : Hp) (vs : List V) (Q : VK) (E : XK), Room k (A.deeper (envOfC qual (defScope st) s.heap.objs.size f cdv)) → sp vs H Q E →
      ∃ t, PSs (cxOf CX0 P w K mg base N qual (defScope st) f cdv A outer s H E).nox (defBody st) t ∧ t { nx := fun _ H' => Q .non H', rt := Q } (start N vs) H) : XOk P w K mg base CX0 (k + 1) R sp := by
  obtain ⟨f, fd, F, r, b⟩ := D
  exact ⟨f, FnOk.toR (F.ok S len fun cdv A outer s H vs Q E hr h => hbody f cdv A outer s H vs Q E hr h) b, r⟩
end
section
variable {X : Cx} {CX : CXT} {k : Nat} {C : Addr} {sp : Sp} {E : XK} {a b : Expr} {ta tb : TE} {pos : Pos}
theorem pe_ixO (G : XOk X.prog X.w X.K X.mg X.base CX k (IOwn X.K C) sp) (hr : Room (k + 1) X.A) (hx : Passes CX X E) (ha : PE X a ta) (hb : PE X b tb)
    (hsl : ∀ x i, subscripted b true (.ref x) i = runValue (.builtin "lifetime.subscript" ⟨[.ref x, i], []⟩) := by intros; rfl) : PE X (.Subscript a b pos) (tIxOwn C sp E ta tb) :=
  let ⟨_, F, r⟩ := G
  pe_ixOwn r F hr hx ha hb hsl
theorem rd_own {p q : Addr} {H : Hp} {Q : VK} (i : InsA H p C) (j : InsA H q C) (h : sp [.ref p, .ref q] H Q E) : rOwn C sp E (.ref p) (.ref q) H Q := ⟨p, q, rfl, rfl, i, j, h⟩
theorem rd_ownI {p : Addr} {z : Int} {H : Hp} {Q : VK} (i : InsA H p C) (h : sp [.ref p, .int z] H Q E) : rOwnI C sp E (.ref p) (.int z) H Q := ⟨p, z, rfl, rfl, i, h⟩
end
end L2.Px
set_option Elab.async false
set_option linter.all false
namespace L2.Px
open PySem L2 TL
inductive Stp where
  | wr (w : Str)
  | pa (f l t : Nat)
deriving DecidableEq
def len1 : Stp → Nat
  | .wr w => w.length
  | .pa f l t => (l - f + 1) * t
def sz : List Stp → Nat
  | [] => 0
  | s :: r => len1 s + sz r
def ty1 : Stp → List Nat
  | .wr w => tl w
  | .pa _ _ _ => []
def tyL : List Stp → List Nat
  | [] => []
  | s :: r => ty1 s ++ tyL r
def okStep (n : Nat) : Stp → Prop
  | .wr w => 1 ≤ w.length ∧ w.length ≤ 20 ∧ ∀ c ∈ tl w, 97 ≤ c ∧ c ≤ 122
  | .pa f l t => f ≤ l ∧ l < n ∧ 1 ≤ t ∧ t ≤ 1000000000
def okFrom : Nat → List Stp → Prop
  | _, [] => True
  | n, s :: r => okStep n s ∧ n + len1 s ≤ 1000000000000000000 ∧ okFrom (n + len1 s) r
def stepK (q : List Nat × Nat) : Stp → List Nat × Nat
  | .wr w => (q.1 ++ List.range' q.2 w.length, q.2 + w.length)
  | .pa f l t => (q.1 ++ (List.replicate t ((q.1.drop f).take (l - f + 1))).flatten, q.2)
def run (ss : List Stp) : List Nat × Nat := ss.foldl stepK ([], 0)
/-- the keys of all places -/
def ks (ss : List Stp) : List Nat := (run ss).1
theorem sz_append : ∀ (a b : List Stp), sz (a ++ b) = sz a + sz b
  | [], b => by simp [sz]
  | s :: a, b => by simp only [List.cons_append, sz]; rw [sz_append a b]; omega
theorem tyL_append : ∀ (a b : List Stp), tyL (a ++ b) = tyL a ++ tyL b
  | [], b => by simp [tyL]
  | s :: a, b => by simp only [List.cons_append, tyL]; rw [tyL_append a b, List.append_assoc]
theorem okFrom_append : ∀ (n : Nat) (a b : List Stp), okFrom n (a ++ b) ↔ okFrom n a ∧ okFrom (n + sz a) b
  | n, [], b => by simp [okFrom, sz]
  | n, s :: a, b => by
    simp only [List.cons_append, okFrom, sz]
    rw [okFrom_append (n + len1 s) a b, show n + (len1 s + sz a) = n + len1 s + sz a by omega]
    constructor
    · rintro ⟨h1, h2, h3, h4⟩; exact ⟨⟨h1, h2, h3⟩, h4⟩
    · rintro ⟨⟨h1, h2, h3⟩, h4⟩; exact ⟨h1, h2, h3, h4⟩
theorem run_append (a b : List Stp) : run (a ++ b) = b.foldl stepK (run a) := List.foldl_append
theorem take_snoc {α : Type} {l : List α} {j : Nat} {s : α} (h : l[j]? = some s) : l.take (j + 1) = l.take j ++ [s] := by
  rw [List.take_add_one, h]; rfl
theorem sz_take {ss : List Stp} {j : Nat} {s : Stp} (h : ss[j]? = some s) : sz (ss.take (j + 1)) = sz (ss.take j) + len1 s := by
  rw [take_snoc h, sz_append]; simp [sz]
theorem run_take {ss : List Stp} {j : Nat} {s : Stp} (h : ss[j]? = some s) : run (ss.take (j + 1)) = stepK (run (ss.take j)) s := by
  rw [take_snoc h, run_append]; rfl
theorem tyL_take {ss : List Stp} {j : Nat} {s : Stp} (h : ss[j]? = some s) : tyL (ss.take (j + 1)) = tyL (ss.take j) ++ ty1 s := by
  rw [take_snoc h, tyL_append]; simp [tyL]
theorem ok_at {ss : List Stp} {j : Nat} {s : Stp} (ok : okFrom 0 ss) (h : ss[j]? = some s) : okStep (sz (ss.take j)) s ∧ sz (ss.take j) + len1 s ≤ 1000000000000000000 := by
  have e : ss = ss.take j ++ (s :: ss.drop (j + 1)) := by
    have hj : j < ss.length := (List.getElem?_eq_some_iff.mp h).1
    have hs : ss[j] = s := (List.getElem?_eq_some_iff.mp h).2
    rw [← hs, ← List.drop_eq_getElem_cons hj, List.take_append_drop]
  rw [e, okFrom_append] at ok
  obtain ⟨_, h1, h2, _⟩ := ok
  simp only [Nat.zero_add] at h1 h2
  exact ⟨h1, h2⟩
theorem ok_take {ss : List Stp} (ok : okFrom 0 ss) (j : Nat) : okFrom 0 (ss.take j) := by
  rw [← List.take_append_drop j ss, okFrom_append] at ok
  exact ok.1
theorem sz_le {ss : List Stp} (ok : okFrom 0 ss) : sz ss ≤ 1000000000000000000 := by
  rcases Nat.eq_zero_or_pos ss.length with h | h
  · rw [List.length_eq_zero_iff.mp h]; simp [sz]
  · have hj : ss[ss.length - 1]? = some (ss[ss.length - 1]'(by omega)) := by rw [List.getElem?_eq_getElem]
    have := (ok_at ok hj).2
    rw [← sz_take hj, show ss.length - 1 + 1 = ss.length by omega, List.take_length] at this
    exact this
theorem run_snd_from : ∀ (ss : List Stp) (q : List Nat × Nat), (ss.foldl stepK q).2 = q.2 + (tyL ss).length
  | [], q => by simp [tyL]
  | .wr w :: r, q => by
    simp only [List.foldl_cons, tyL, List.length_append, ty1]
    rw [run_snd_from r]; simp only [stepK]; rw [len_tl w]; omega
  | .pa f l t :: r, q => by
    simp only [List.foldl_cons, tyL, List.length_append, ty1]
    rw [run_snd_from r]; simp [stepK]
theorem run_snd (ss : List Stp) : (run ss).2 = (tyL ss).length := by
  unfold run; rw [run_snd_from]; simp
theorem length_flat_rep {α : Type} (t : Nat) (l : List α) : (List.replicate t l).flatten.length = t * l.length := by
  induction t with
  | zero => simp
  | succ t ih => rw [List.replicate_succ, List.flatten_cons, List.length_append, ih, Nat.succ_mul]; omega
theorem stepK_len {q : List Nat × Nat} {s : Stp} (h : okStep q.1.length s) : (stepK q s).1.length = q.1.length + len1 s := by
  cases s with
  | wr w => simp [stepK, len1]
  | pa f l t =>
    obtain ⟨h1, h2, _, _⟩ := h
    simp only [stepK, len1, List.length_append, length_flat_rep, List.length_take, List.length_drop]
    rw [Nat.min_eq_left (by omega), Nat.mul_comm]
theorem ks_len_from : ∀ (ss : List Stp) (q : List Nat × Nat), okFrom q.1.length ss → (ss.foldl stepK q).1.length = q.1.length + sz ss
  | [], q, _ => by simp [sz]
  | s :: r, q, ok => by
    obtain ⟨h1, h2, h3⟩ := ok
    have e := stepK_len h1
    rw [List.foldl_cons, ks_len_from r _ (by rw [e]; exact h3), e]
    simp only [sz]; omega
theorem ks_len {ss : List Stp} (ok : okFrom 0 ss) : (ks ss).length = sz ss := by
  have := ks_len_from ss ([], 0) ok
  simpa [ks, run] using this
/-- the keys of the first steps' places stand ahead -/
theorem stepK_pre (q : List Nat × Nat) (s : Stp) : ∃ m, (stepK q s).1 = q.1 ++ m := by
  cases s <;> exact ⟨_, rfl⟩
theorem run_pre : ∀ (ss : List Stp) (q : List Nat × Nat), ∃ m, (ss.foldl stepK q).1 = q.1 ++ m
  | [], q => ⟨[], by simp⟩
  | s :: r, q => by
    obtain ⟨m, e⟩ := stepK_pre q s
    obtain ⟨m', e'⟩ := run_pre r (stepK q s)
    exact ⟨m ++ m', by rw [List.foldl_cons, e', e, List.append_assoc]⟩
theorem ks_pre (a b : List Stp) : ∃ m, ks (a ++ b) = ks a ++ m := by
  unfold ks
  rw [run_append]
  exact run_pre b (run a)
theorem ks_take {ss : List Stp} (ok : okFrom 0 ss) (j : Nat) {p : Nat} (h : p < sz (ss.take j)) : (ks ss)[p]? = (ks (ss.take j))[p]? := by
  obtain ⟨m, e⟩ := ks_pre (ss.take j) (ss.drop j)
  rw [List.take_append_drop] at e
  rw [e, List.getElem?_append_left (by rw [ks_len (ok_take ok j)]; exact h)]
theorem flat_rep_get {α : Type} {l : List α} (hl : 0 < l.length) : ∀ (t i : Nat), i < t * l.length → (List.replicate t l).flatten[i]? = l[i % l.length]?
  | 0, i, h => by simp at h
  | t + 1, i, h => by
    rw [List.replicate_succ, List.flatten_cons]
    by_cases hi : i < l.length
    · rw [List.getElem?_append_left hi, Nat.mod_eq_of_lt hi]
    · rw [List.getElem?_append_right (by omega), flat_rep_get hl t (i - l.length) (by rw [Nat.succ_mul] at h; omega)]
      rw [← Nat.mod_eq_sub_mod (by omega)]
/-- a typed place -/
theorem ks_wr {ss : List Stp} {j : Nat} {w : Str} (ok : okFrom 0 ss) (h : ss[j]? = some (.wr w)) {p : Nat} (h1 : sz (ss.take j) ≤ p) (h2 : p < sz (ss.take (j + 1))) : (ks ss)[p]? = some ((tyL (ss.take j)).length + (p - sz (ss.take j))) := by
  rw [ks_take ok (j + 1) h2]
  have hs := sz_take h
  simp only [len1] at hs
  unfold ks
  rw [run_take h]
  simp only [stepK]
  have e : (run (ss.take j)).1.length = sz (ss.take j) := ks_len (ok_take ok j)
  rw [List.getElem?_append_right (by rw [e]; exact h1), e, run_snd, List.getElem?_range' (by omega)]
  simp
/-- a pasted place -/
theorem ks_pa {ss : List Stp} {j f l t : Nat} (ok : okFrom 0 ss) (h : ss[j]? = some (.pa f l t)) {p : Nat} (h1 : sz (ss.take j) ≤ p) (h2 : p < sz (ss.take (j + 1))) :
    f + (p - sz (ss.take j)) % (l - f + 1) < sz (ss.take j) ∧ (ks ss)[p]? = (ks ss)[f + (p - sz (ss.take j)) % (l - f + 1)]? := by
  obtain ⟨⟨a1, a2, a3, a4⟩, _⟩ := ok_at ok h
  have hm : (p - sz (ss.take j)) % (l - f + 1) < l - f + 1 := Nat.mod_lt _ (by omega)
  refine ⟨by omega, ?_⟩
  rw [ks_take ok (j + 1) h2, ks_take ok j (p := f + (p - sz (ss.take j)) % (l - f + 1)) (by omega)]
  have hs := sz_take h
  simp only [len1] at hs
  have e : (run (ss.take j)).1.length = sz (ss.take j) := ks_len (ok_take ok j)
  unfold ks
  rw [run_take h]
  simp only [stepK]
  have el : (((run (ss.take j)).1.drop f).take (l - f + 1)).length = l - f + 1 := by
    rw [List.length_take, List.length_drop, e]; omega
  rw [List.getElem?_append_right (by rw [e]; exact h1), e, flat_rep_get (by rw [el]; omega) _ _ (by rw [el, Nat.mul_comm]; omega), el, List.getElem?_take]
  rw [if_pos hm, List.getElem?_drop]
/-- all keys are keys -/
theorem stepK_lt {q : List Nat × Nat} {s : Stp} (h : ∀ k ∈ q.1, k < q.2) : ∀ k ∈ (stepK q s).1, k < (stepK q s).2 := by
  cases s with
  | wr w =>
    intro k hk
    simp only [stepK, List.mem_append, List.mem_range'_1] at hk ⊢
    rcases hk with hk | hk
    · have := h k hk; omega
    · omega
  | pa f l t =>
    intro k hk
    simp only [stepK, List.mem_append, List.mem_flatten, List.mem_replicate] at hk ⊢
    rcases hk with hk | ⟨l', ⟨_, rfl⟩, hk⟩
    · exact h k hk
    · exact h k (List.mem_of_mem_drop (List.mem_of_mem_take hk))
theorem run_lt : ∀ (ss : List Stp) (q : List Nat × Nat), (∀ k ∈ q.1, k < q.2) → ∀ k ∈ (ss.foldl stepK q).1, k < (ss.foldl stepK q).2
  | [], q, h => h
  | s :: r, q, h => run_lt r _ (stepK_lt h)
theorem ks_lt {ss : List Stp} {k : Nat} (h : k ∈ ks ss) : k < (tyL ss).length := by
  have := run_lt ss ([], 0) (by simp) k h
  rw [← run_snd]; exact this
end L2.Px
set_option Elab.async false
set_option linter.all false
set_option maxRecDepth 100000
set_option maxHeartbeats 1000000
namespace L2.Px
open PySem PySem.Spec PyProof.Rows StX TL
def isInt (lo hi : Int) : V → Bool
  | .int i => decide (lo ≤ i ∧ i ≤ hi)
  | _ => false
def isLet : V → Bool
  | .str x => match tl x with
    | [c] => decide (97 ≤ c ∧ c ≤ 122)
    | _ => false
  | _ => false
def isWd : V → Bool
  | .str x => decide (1 ≤ (tl x).length ∧ (tl x).length ≤ 20 ∧ ∀ c ∈ tl x, 97 ≤ c ∧ c ≤ 122)
  | _ => false
def intOf : V → Int
  | .int i => i
  | _ => 0
def isSt (n : Int) : List V → Bool
  | [.str z, v] => decide (z = "write") && isWd v
  | [.str z, f, l, t] => decide (z = "paste") && (isInt 0 (n - 1) l && isInt 0 (intOf l) f && isInt 1 1000000000 t)
  | _ => false
def sp_is_integer : Sp := fun vs H Q _ => ∃ v lo hi, vs = [v, .int lo, .int hi] ∧ NoSeq v ∧ Q (.bl (isInt lo hi v)) H
def sp_is_letter : Sp := fun vs H Q _ => ∃ v, vs = [v] ∧ NoSeq v ∧ (∀ x, v = .str x → x.length ≤ sizeLine) ∧ Q (.bl (isLet v)) H
def sp_is_word : Sp := fun vs H Q _ => ∃ v, vs = [v] ∧ NoSeq v ∧ (∀ x, v = .str x → x.length ≤ sizeLine) ∧ ∀ H', Same H H' → Q (.bl (isWd v)) H'
def mkS (l : List Nat) : Str := ⟨l.toArray⟩
theorem tl_mkS (l : List Nat) : tl (mkS l) = l := rfl
theorem mkS_tl (x : Str) : mkS (tl x) = x := mk_tl x
theorem mkS_len (l : List Nat) : (mkS l).length = l.length := by rw [len_tl, tl_mkS]
theorem mkS_app (a b : List Nat) : mkS a ++ mkS b = mkS (a ++ b) := ext_tl (by rw [tl_append, tl_mkS, tl_mkS, tl_mkS])
def partF (s n : Int) (t : Bool) (f l : Int) : List (Str × V) := putF "last" (.int l) (putF "first" (.int f) (putF "is_typed" (.bl t) (putF "length" (.int n) (putF "start" (.int s) []))))
def textF (m : Addr) (y : Str) (p : Addr) (n : Int) : List (Str × V) := putF "total" (.int n) (putF "parts" (.ref p) (putF "typed" (.str y) (putF "made" (.ref m) [])))
section
variable {s n f l : Int} {t : Bool} {m p : Addr} {y x : Str}
theorem partF_start : (partF s n t f l).lookup ("start" : Str) = some (.int s) := by
  unfold partF; rw [lookup_putF, if_neg (by decide +kernel), lookup_putF, if_neg (by decide +kernel), lookup_putF, if_neg (by decide +kernel), lookup_putF, if_neg (by decide +kernel), lookup_putF, if_pos rfl]
theorem partF_length : (partF s n t f l).lookup ("length" : Str) = some (.int n) := by
  unfold partF; rw [lookup_putF, if_neg (by decide +kernel), lookup_putF, if_neg (by decide +kernel), lookup_putF, if_neg (by decide +kernel), lookup_putF, if_pos rfl]
theorem partF_typed : (partF s n t f l).lookup ("is_typed" : Str) = some (.bl t) := by
  unfold partF; rw [lookup_putF, if_neg (by decide +kernel), lookup_putF, if_neg (by decide +kernel), lookup_putF, if_pos rfl]
theorem partF_first : (partF s n t f l).lookup ("first" : Str) = some (.int f) := by
  unfold partF; rw [lookup_putF, if_neg (by decide +kernel), lookup_putF, if_pos rfl]
theorem partF_last : (partF s n t f l).lookup ("last" : Str) = some (.int l) := by
  unfold partF; rw [lookup_putF, if_pos rfl]
theorem partF_no (h : x ≠ "last" ∧ x ≠ "first" ∧ x ≠ "is_typed" ∧ x ≠ "length" ∧ x ≠ "start") : (partF s n t f l).lookup x = none := by
  unfold partF; rw [lookup_putF, if_neg h.1, lookup_putF, if_neg h.2.1, lookup_putF, if_neg h.2.2.1, lookup_putF, if_neg h.2.2.2.1, lookup_putF, if_neg h.2.2.2.2]; rfl
theorem textF_made : (textF m y p n).lookup ("made" : Str) = some (.ref m) := by
  unfold textF; rw [lookup_putF, if_neg (by decide +kernel), lookup_putF, if_neg (by decide +kernel), lookup_putF, if_neg (by decide +kernel), lookup_putF, if_pos rfl]
theorem textF_typed : (textF m y p n).lookup ("typed" : Str) = some (.str y) := by
  unfold textF; rw [lookup_putF, if_neg (by decide +kernel), lookup_putF, if_neg (by decide +kernel), lookup_putF, if_pos rfl]
theorem textF_parts : (textF m y p n).lookup ("parts" : Str) = some (.ref p) := by
  unfold textF; rw [lookup_putF, if_neg (by decide +kernel), lookup_putF, if_pos rfl]
theorem textF_total : (textF m y p n).lookup ("total" : Str) = some (.int n) := by
  unfold textF; rw [lookup_putF, if_pos rfl]
theorem textF_no (h : x ≠ "total" ∧ x ≠ "parts" ∧ x ≠ "typed" ∧ x ≠ "made") : (textF m y p n).lookup x = none := by
  unfold textF; rw [lookup_putF, if_neg h.1, lookup_putF, if_neg h.2.1, lookup_putF, if_neg h.2.2.1, lookup_putF, if_neg h.2.2.2]; rfl
theorem putF_len {fs : List (Str × V)} {k : Nat} {f : Str} {v : V} (h : fs.length ≤ k) : (putF f v fs).length ≤ k + 1 := Nat.le_trans (length_putF f v fs) (Nat.succ_le_succ h)
end
/-- a written step as a tuple's items -/
def stV : Stp → List V
  | .wr w => [.str "write", .str w]
  | .pa f l t => [.str "paste", .int f, .int l, .int t]
def StepAt (K : PySem.W.Frag) (H : Hp) (v : V) (s : Stp) : Prop := ∃ a, v = .ref a ∧ SqT K H a (stV s)
def StepsAt (K : PySem.W.Frag) (H : Hp) (ms : List V) (ss : List Stp) : Prop := ms.length = ss.length ∧ ∀ (j : Nat) s, ss[j]? = some s → ∃ v, ms[j]? = some v ∧ StepAt K H v s
/-- the part of step j -/
def PartAt (CP : Addr) (H : Hp) (v : V) (n y : Nat) : Stp → Prop
  | .wr w => ∃ p dx, v = .ref p ∧ H p = some (.ins CP dx (partF n w.length true y 0))
  | .pa f l t => ∃ p dx, v = .ref p ∧ H p = some (.ins CP dx (partF n (((l - f + 1) * t : Nat)) false f l))
def PartsAt (CP : Addr) (H : Hp) (ps : List V) (ss : List Stp) : Prop := ps.length = ss.length ∧ ∀ (j : Nat) s, ss[j]? = some s → ∃ v, ps[j]? = some v ∧ PartAt CP H v (sz (ss.take j)) (tyL (ss.take j)).length s
structure TxI where
  ss : List Stp
  dx : Addr
  m : Addr
  pl : Addr
  ms : List V
  ps : List V
structure TextAt (K : PySem.W.Frag) (CT CP : Addr) (H : Hp) (a : Addr) (t : TxI) : Prop where
  ins : H a = some (.ins CT t.dx (textF t.m (mkS (tyL t.ss)) t.pl (sz t.ss)))
  made : SqT K H t.m t.ms
  stp : StepsAt K H t.ms t.ss
  pls : H t.pl = some (.lst t.ps)
  prt : PartsAt CP H t.ps t.ss
  ok : okFrom 0 t.ss
  few : t.ss.length ≤ 30
section
variable {K : PySem.W.Frag} {CT CP : Addr} {H H' : Hp} {a : Addr} {t : TxI} {v : V} {s : Stp} {ms ps : List V} {ss : List Stp} {n y : Nat}
theorem StepAt.mono (e : Same H H') (h : StepAt K H v s) : StepAt K H' v s := let ⟨a, ev, q⟩ := h; ⟨a, ev, Same.tup e q⟩
theorem StepsAt.mono (e : Same H H') (h : StepsAt K H ms ss) : StepsAt K H' ms ss := ⟨h.1, fun j s q => let ⟨v, a, b⟩ := h.2 j s q; ⟨v, a, b.mono e⟩⟩
theorem PartAt.mono (e : Same H H') (h : PartAt CP H v n y s) : PartAt CP H' v n y s := by
  cases s with
  | wr w => obtain ⟨p, dx, ev, q⟩ := h; exact ⟨p, dx, ev, e _ _ q⟩
  | pa f l t => obtain ⟨p, dx, ev, q⟩ := h; exact ⟨p, dx, ev, e _ _ q⟩
theorem PartsAt.mono (e : Same H H') (h : PartsAt CP H ps ss) : PartsAt CP H' ps ss := ⟨h.1, fun j s q => let ⟨v, a, b⟩ := h.2 j s q; ⟨v, a, b.mono e⟩⟩
theorem TextAt.mono (h : TextAt K CT CP H a t) (e : Same H H') : TextAt K CT CP H' a t := ⟨e _ _ h.ins, Same.tup e h.made, h.stp.mono e, e _ _ h.pls, h.prt.mono e, h.ok, h.few⟩
theorem TextAt.insA (h : TextAt K CT CP H a t) : InsA H a CT := ⟨_, _, h.ins⟩
theorem TextAt.insM {m : Str} (h : TextAt K CT CP H a t) (hm : m ≠ "total" ∧ m ≠ "parts" ∧ m ≠ "typed" ∧ m ≠ "made" := by decide +kernel) : InsM H a CT m := ⟨_, _, h.ins, textF_no hm⟩
theorem stV_noseq (s : Stp) : ∀ v ∈ stV s, NoSeq v := by
  cases s <;> (intro v hv; simp only [stV, List.mem_cons, List.not_mem_nil, or_false] at hv; rcases hv with rfl | hv) <;> first | trivial | (rcases hv with rfl | hv <;> first | trivial | (rcases hv with rfl | rfl <;> trivial)) | (subst hv; trivial)
end
section
variable (K : PySem.W.Frag) (CT CP : Addr)
def sp_Part_init : Sp := fun vs H Q _ => ∃ x dx s n t f l, vs = [.ref x, .int s, .int n, .bl t, .int f, .int l] ∧ H x = some (.ins CP dx []) ∧ Q .non (upd H x (.ins CP dx (partF s n t f l)))
def sp_Part_source : Sp := fun vs H Q _ => ∃ p dx s n t f l z, vs = [.ref p, .int z] ∧ H p = some (.ins CP dx (partF s n t f l)) ∧ (t = false → f ≤ l) ∧ Q (.int (if t then f + z - s else f + (z - s) % (l - f + 1))) H
/-- Text(*steps) of valid steps: all that stood stands, x is the text -/
def sp_Text_init : Sp := fun vs H Q _ => ∃ x dx m rs ss, vs = [.ref x, .ref m] ∧ H x = some (.ins CT dx []) ∧ SqT K H m rs ∧ StepsAt K H rs ss ∧ okFrom 0 ss ∧ ss.length ≤ 30 ∧
  ∀ H' t, (∀ b o, b ≠ x → H b = some o → H' b = some o) → TextAt K CT CP H' x t → t.ss = ss → t.dx = dx → Q .non H'
end
end L2.Px
namespace L2.Px
open PySem PySem.Spec PyProof.Rows StX TL
section
variable {K : PySem.W.Frag} {H : Hp} {Q : VK} {T : String}
theorem rd_isi {x c : V} {t u : Value} {b : Bool} (k : ClsV c u) (ty : TyX K H x t) (e : PySem.W.kitOne K t u = some b) (q : Q (.bl b) H) : rIsi K [x, c] H Q := ⟨x, c, t, u, b, rfl, k, ty, e, q⟩
def kb (a b : String) : Bool := (kitB a b).getD false
end
end L2.Px
namespace L2.Px
open PySem PySem.Spec PyProof.Rows StX TL
section
variable {K : PySem.W.Frag} {H : Hp} {Q : VK}
theorem rd_isi_int_int {i : Int} (q : Q (.bl true) H) : rIsi K [(.int i), .ty "int"] H Q := rd_isi (.ty _) (TyX.base (.int i)) (kit_ty (by decide +kernel)) q
theorem rd_isi_int_bool {i : Int} (q : Q (.bl false) H) : rIsi K [(.int i), .ty "bool"] H Q := rd_isi (.ty _) (TyX.base (.int i)) (kit_ty (by decide +kernel)) q
theorem rd_isi_int_str {i : Int} (q : Q (.bl false) H) : rIsi K [(.int i), .ty "str"] H Q := rd_isi (.ty _) (TyX.base (.int i)) (kit_ty (by decide +kernel)) q
theorem rd_isi_int_list {i : Int} (q : Q (.bl false) H) : rIsi K [(.int i), .ty "list"] H Q := rd_isi (.ty _) (TyX.base (.int i)) (kit_ty (by decide +kernel)) q
theorem rd_isi_int_tuple {i : Int} (q : Q (.bl false) H) : rIsi K [(.int i), .ty "tuple"] H Q := rd_isi (.ty _) (TyX.base (.int i)) (kit_ty (by decide +kernel)) q
theorem rd_isi_bl_int {c : Bool} (q : Q (.bl true) H) : rIsi K [(.bl c), .ty "int"] H Q := rd_isi (.ty _) (TyX.base (.bl c)) (kit_ty (by decide +kernel)) q
theorem rd_isi_bl_bool {c : Bool} (q : Q (.bl true) H) : rIsi K [(.bl c), .ty "bool"] H Q := rd_isi (.ty _) (TyX.base (.bl c)) (kit_ty (by decide +kernel)) q
theorem rd_isi_bl_str {c : Bool} (q : Q (.bl false) H) : rIsi K [(.bl c), .ty "str"] H Q := rd_isi (.ty _) (TyX.base (.bl c)) (kit_ty (by decide +kernel)) q
theorem rd_isi_bl_list {c : Bool} (q : Q (.bl false) H) : rIsi K [(.bl c), .ty "list"] H Q := rd_isi (.ty _) (TyX.base (.bl c)) (kit_ty (by decide +kernel)) q
theorem rd_isi_bl_tuple {c : Bool} (q : Q (.bl false) H) : rIsi K [(.bl c), .ty "tuple"] H Q := rd_isi (.ty _) (TyX.base (.bl c)) (kit_ty (by decide +kernel)) q
theorem rd_isi_str_int {x : Str} (q : Q (.bl false) H) : rIsi K [(.str x), .ty "int"] H Q := rd_isi (.ty _) (TyX.base (.str x)) (kit_ty (by decide +kernel)) q
theorem rd_isi_str_bool {x : Str} (q : Q (.bl false) H) : rIsi K [(.str x), .ty "bool"] H Q := rd_isi (.ty _) (TyX.base (.str x)) (kit_ty (by decide +kernel)) q
theorem rd_isi_str_str {x : Str} (q : Q (.bl true) H) : rIsi K [(.str x), .ty "str"] H Q := rd_isi (.ty _) (TyX.base (.str x)) (kit_ty (by decide +kernel)) q
theorem rd_isi_str_list {x : Str} (q : Q (.bl false) H) : rIsi K [(.str x), .ty "list"] H Q := rd_isi (.ty _) (TyX.base (.str x)) (kit_ty (by decide +kernel)) q
theorem rd_isi_str_tuple {x : Str} (q : Q (.bl false) H) : rIsi K [(.str x), .ty "tuple"] H Q := rd_isi (.ty _) (TyX.base (.str x)) (kit_ty (by decide +kernel)) q
theorem rd_isi_non_int  (q : Q (.bl false) H) : rIsi K [V.non, .ty "int"] H Q := rd_isi (.ty _) (TyX.base .non) (kit_ty (by decide +kernel)) q
theorem rd_isi_non_bool  (q : Q (.bl false) H) : rIsi K [V.non, .ty "bool"] H Q := rd_isi (.ty _) (TyX.base .non) (kit_ty (by decide +kernel)) q
theorem rd_isi_non_str  (q : Q (.bl false) H) : rIsi K [V.non, .ty "str"] H Q := rd_isi (.ty _) (TyX.base .non) (kit_ty (by decide +kernel)) q
theorem rd_isi_non_list  (q : Q (.bl false) H) : rIsi K [V.non, .ty "list"] H Q := rd_isi (.ty _) (TyX.base .non) (kit_ty (by decide +kernel)) q
theorem rd_isi_non_tuple  (q : Q (.bl false) H) : rIsi K [V.non, .ty "tuple"] H Q := rd_isi (.ty _) (TyX.base .non) (kit_ty (by decide +kernel)) q
theorem ty_tup {a : Addr} {xs : List V} (e : SqT K H a xs) : TyX K H (.ref a) (.type "tuple") := by
  rcases e with (q | ⟨o, q⟩) | ⟨o, _, _, q, c, _⟩
  · exact TyX.base (.tup q)
  · exact TyX.fTuple q
  · exact TyX.kTuple q c
theorem rd_isi_tup_tuple {a : Addr} {xs : List V} (e : SqT K H a xs) (q : Q (.bl true) H) : rIsi K [.ref a, .ty "tuple"] H Q := rd_isi (.ty _) (ty_tup e) (kit_ty (by decide +kernel)) q
end
end L2.Px
set_option Elab.async false
set_option linter.all false
set_option maxRecDepth 100000
set_option maxHeartbeats 1000000
namespace L2.Px
open PySem PySem.Spec PyProof.Rows StX TL
/-- all but what stands at x is as it was -/
def But (x : Addr) (H H' : Hp) : Prop := ∀ b o, b ≠ x → H b = some o → H' b = some o
section
variable {K : PySem.W.Frag} {CT CP : Addr} {H H' H1 : Hp} {a x : Addr} {t : TxI} {v : V} {s : Stp} {ms ps xs : List V} {ss : List Stp} {n y i : Nat} {o : HO}
theorem But.refl : But x H H := fun _ _ _ h => h
theorem But.trans (a : But x H H1) (b : But x H1 H') : But x H H' := fun c o hc h => b c o hc (a c o hc h)
theorem But.at (e : But x H H') : But x H (upd H' x o) := fun b u hb h => by rw [upd_ne hb]; exact e b u hb h
theorem But.same (e : Same H H') : But x H H' := fun b u _ h => e b u h
/-- an object that is no tuple and not locked -/
def Free1 (H : Hp) (x : Addr) : Prop := (∀ xs, H x ≠ some (.tup xs)) ∧ ∀ o u, H x ≠ some (.frz o u)
theorem free1_ins {C dx : Addr} {fs : List (Str × V)} (h : H x = some (.ins C dx fs)) : Free1 H x := ⟨fun xs e => (by rw [h] at e; cases e), fun o u e => (by rw [h] at e; cases e)⟩
theorem free1_lst (h : H x = some (.lst xs)) : Free1 H x := ⟨fun xs e => (by rw [h] at e; cases e), fun o u e => (by rw [h] at e; cases e)⟩
theorem But.tup (e : But x H H') (f : Free1 H x) (h : SqT K H a xs) : SqT K H' a xs := by
  rcases h with (h | ⟨o, h⟩) | h
  · exact .inl (.inl (e _ _ (fun z => f.1 xs (z ▸ h)) h))
  · exact .inl (.inr ⟨o, e _ _ (fun z => f.2 o _ (z ▸ h)) h⟩)
  · exact .inr h
theorem But.step (e : But x H H') (f : Free1 H x) (h : StepAt K H v s) : StepAt K H' v s := let ⟨a, ev, q⟩ := h; ⟨a, ev, e.tup f q⟩
theorem But.steps (e : But x H H') (f : Free1 H x) (h : StepsAt K H ms ss) : StepsAt K H' ms ss := ⟨h.1, fun j s q => let ⟨v, a, b⟩ := h.2 j s q; ⟨v, a, e.step f b⟩⟩
theorem But.part (e : But x H H') (f : ∀ dx fs, H x ≠ some (.ins CP dx fs)) (h : PartAt CP H v n y s) : PartAt CP H' v n y s := by
  cases s with
  | wr w => obtain ⟨p, dx, ev, q⟩ := h; exact ⟨p, dx, ev, e _ _ (fun z => f _ _ (z ▸ q)) q⟩
  | pa f' l t => obtain ⟨p, dx, ev, q⟩ := h; exact ⟨p, dx, ev, e _ _ (fun z => f _ _ (z ▸ q)) q⟩
theorem PartsAt.but (e : But x H H') (f : ∀ dx fs, H x ≠ some (.ins CP dx fs)) (h : PartsAt CP H ps ss) : PartsAt CP H' ps ss := ⟨h.1, fun j s q => let ⟨v, a, b⟩ := h.2 j s q; ⟨v, a, But.part e f b⟩⟩
theorem take_take_le {α : Type} {l : List α} {i j : Nat} (h : j ≤ i) : (l.take i).take j = l.take j := by rw [List.take_take, Nat.min_eq_left h]
theorem PartsAt.snoc (h : PartsAt CP H ps (ss.take i)) (hs : ss[i]? = some s) (e : But x H H') (f : ∀ dx fs, H x ≠ some (.ins CP dx fs)) (hp : PartAt CP H' v (sz (ss.take i)) (tyL (ss.take i)).length s) : PartsAt CP H' (ps ++ [v]) (ss.take (i + 1)) := by
  have hi : i < ss.length := (List.getElem?_eq_some_iff.mp hs).1
  have hl : ps.length = i := by rw [h.1, List.length_take]; omega
  refine ⟨by rw [List.length_append, hl, List.length_take]; simp; omega, fun j s' hj => ?_⟩
  have hj' : j < i + 1 := by
    have := (List.getElem?_eq_some_iff.mp hj).1
    rw [List.length_take] at this; omega
  rw [take_take_le (by omega)]
  rw [List.getElem?_take, if_pos hj'] at hj
  by_cases hji : j < i
  · obtain ⟨v', e1, e2⟩ := h.2 j s' (by rw [List.getElem?_take, if_pos hji]; exact hj)
    rw [take_take_le (by omega)] at e2
    exact ⟨v', by rw [List.getElem?_append_left (by omega)]; exact e1, But.part e f e2⟩
  · have ej : j = i := by omega
    subst ej
    rw [hs] at hj; cases hj
    exact ⟨v, by rw [List.getElem?_append_right (by omega), hl]; simp, hp⟩
theorem StepsAt.at (h : StepsAt K H ms ss) {j : Nat} (hv : ms[j]? = some v) : ∃ s, ss[j]? = some s ∧ StepAt K H v s := by
  have hj : j < ss.length := by rw [← h.1]; exact (List.getElem?_eq_some_iff.mp hv).1
  obtain ⟨v', e1, e2⟩ := h.2 j _ (List.getElem?_eq_getElem hj)
  rw [hv] at e1; cases e1
  exact ⟨_, List.getElem?_eq_getElem hj, e2⟩
theorem str_small {w : Str} (h : w.length ≤ 20) : w.length ≤ sizeLine := Nat.le_trans h (by rw [sizeLine_eq]; decide)
def mv (n : Nat) : Stp → Stp
  | .wr w => .wr w
  | .pa f l t => .pa (f + n) (l + n) t
def joinS (a b : List Stp) : List Stp := a ++ b.map (mv (sz a))
def rt (k c : Nat) : Nat → List Stp → List Stp
  | _, [] => []
  | n, .wr w :: r => (if n ≤ k ∧ k < n + w.length then .wr (mkS ((tl w).set (k - n) c)) else .wr w) :: rt k c (n + w.length) r
  | n, .pa f l t :: r => .pa f l t :: rt k c n r
end
section
variable (K : PySem.W.Frag) (CT CP : Addr)
def sp_is_step : Sp := fun vs H Q _ => ∃ v, ∃ (n : Nat), ∃ s, vs = [v, .int n] ∧ StepAt K H v s ∧ okStep n s ∧ ∀ H', Same H H' → Q (.bl true) H'
def sp_Text_of_steps : Sp := fun vs H Q _ => ∃ a ms ss, vs = [.ref CT, .ref a] ∧ (SqT K H a ms ∨ SqL K H a ms) ∧ StepsAt K H ms ss ∧ okFrom 0 ss ∧ ss.length ≤ 30 ∧ ∀ H' x t, Same H H' → TextAt K CT CP H' x t → t.ss = ss → Q (.ref x) H'
def sp_Text_steps : Sp := fun vs H Q _ => ∃ a t, vs = [.ref a] ∧ TextAt K CT CP H a t ∧ Q (.ref t.m) H
def sp_Text_typed_keys : Sp := fun vs H Q _ => ∃ a t, vs = [.ref a] ∧ TextAt K CT CP H a t ∧ Q (.str (mkS (tyL t.ss))) H
def sp_Text_size : Sp := fun vs H Q _ => ∃ a t, vs = [.ref a] ∧ TextAt K CT CP H a t ∧ Q (.int (sz t.ss)) H
def sp_Text_check_place : Sp := fun vs H Q _ => ∃ a t v, vs = [.ref a, v] ∧ TextAt K CT CP H a t ∧ NoSeq v ∧ isInt 0 ((sz t.ss : Int) - 1) v = true ∧ Q .non H
def sp_Text_key_of : Sp := fun vs H Q _ => ∃ a t, ∃ (p k : Nat), vs = [.ref a, .int p] ∧ TextAt K CT CP H a t ∧ (ks t.ss)[p]? = some k ∧ Q (.int k) H
def sp_Text_call : Sp := sp_Text_key_of K CT CP
def sp_Text_getitem : Sp := fun vs H Q _ => ∃ a t, ∃ (p k c : Nat), vs = [.ref a, .int p] ∧ TextAt K CT CP H a t ∧ (ks t.ss)[p]? = some k ∧ (tyL t.ss)[k]? = some c ∧ Q (.str ⟨#[c]⟩) H
def sp_Text_add : Sp := fun vs H Q _ => ∃ a b t u, vs = [.ref a, .ref b] ∧ TextAt K CT CP H a t ∧ TextAt K CT CP H b u ∧ okFrom 0 (joinS t.ss u.ss) ∧ (joinS t.ss u.ss).length ≤ 30 ∧ ∀ H' x z, Same H H' → TextAt K CT CP H' x z → z.ss = joinS t.ss u.ss → Q (.ref x) H'
def mulS (ss : List Stp) (n : Nat) : List Stp := if n = 1 ∨ sz ss = 0 then ss else ss ++ [.pa 0 (sz ss - 1) (n - 1)]
def sp_Text_mul : Sp := fun vs H Q _ => ∃ a t, ∃ (n : Nat), vs = [.ref a, .int n] ∧ TextAt K CT CP H a t ∧ 1 ≤ n ∧ n ≤ 1000000000 ∧ okFrom 0 (mulS t.ss n) ∧ (mulS t.ss n).length ≤ 30 ∧ ∀ H' x z, Same H H' → TextAt K CT CP H' x z → z.ss = mulS t.ss n → Q (.ref x) H'
def sp_Text_retyped : Sp := fun vs H Q _ => ∃ a t, ∃ (k c : Nat), vs = [.ref a, .int k, .str ⟨#[c]⟩] ∧ TextAt K CT CP H a t ∧ k < (tyL t.ss).length ∧ 97 ≤ c ∧ c ≤ 122 ∧ ∀ H' x z, Same H H' → TextAt K CT CP H' x z → z.ss = rt k c 0 t.ss → Q (.ref x) H'
end
end L2.Px
namespace L2.Px
open PySem PySem.Spec PyProof.Rows StX TL
section
variable {K : PySem.W.Frag} {H : Hp} {Q : VK} {x : Str} {a : Addr} {xs : List V}
def rLenA (K : PySem.W.Frag) : List V → Hp → VK → Prop := fun xs H Q => ∃ x n, xs = [x] ∧ LenV K x H n ∧ Q (.int n) H
theorem cLen {X : Cx} : CallR X (.builtin "len") (rLenA X.K) := call_len
theorem rd_len_str (hz : x.length ≤ sizeLine) (q : Q (.int (x.length : Nat)) H) : rLenA K [.str x] H Q := ⟨_, _, rfl, ⟨hz, rfl⟩, q⟩
theorem rd_len_lst (h : SqL K H a xs) (q : Q (.int (xs.length : Nat)) H) : rLenA K [.ref a] H Q := ⟨_, _, rfl, .inl ⟨_, h, rfl⟩, q⟩
theorem rd_len_tup (h : SqT K H a xs) (q : Q (.int (xs.length : Nat)) H) : rLenA K [.ref a] H Q := ⟨_, _, rfl, .inr ⟨_, h, rfl⟩, q⟩
def rIntA : List V → Hp → VK → Prop := fun xs H Q => (∃ i, xs = [.int i] ∧ Q (.int i) H) ∨ ∃ k, xs = [.bl k] ∧ Q (.int (if k then 1 else 0)) H
theorem cInt {X : Cx} : CallR X (.type "int") rIntA := call_int1
theorem rd_int_int {i : Int} (q : Q (.int i) H) : rIntA [.int i] H Q := .inl ⟨i, rfl, q⟩
theorem rd_int_bl {c : Bool} (q : Q (.int (if c then 1 else 0)) H) : rIntA [.bl c] H Q := .inr ⟨c, rfl, q⟩
def rListA (K : PySem.W.Frag) : List V → Hp → VK → Prop := fun xs H Q => ∃ p ys, xs = [.ref p] ∧ (SqL K H p ys ∨ SqT K H p ys) ∧ ∀ l, H l = none → Q (.ref l) (upd H l (.lst ys))
theorem cList {X : Cx} : CallR X (.type "list") (rListA X.K) := call_list_of
theorem rd_list_tup (h : SqT K H a xs) (q : ∀ l, H l = none → Q (.ref l) (upd H l (.lst xs))) : rListA K [.ref a] H Q := ⟨a, xs, rfl, .inr h, q⟩
def rTupA (K : PySem.W.Frag) : List V → Hp → VK → Prop := fun xs H Q => ∃ p ys, xs = [.ref p] ∧ ((SqL K H p ys ∧ ∀ l, H l = none → Q (.ref l) (upd H l (.tup ys))) ∨ (SqT K H p ys ∧ Q (.ref p) H))
theorem cTup {X : Cx} : CallR X (.type "tuple") (rTupA X.K) := call_tuple_of
theorem rd_tuple_lst (h : SqL K H a xs) (q : ∀ l, H l = none → Q (.ref l) (upd H l (.tup xs))) : rTupA K [.ref a] H Q := ⟨a, xs, rfl, .inl ⟨h, q⟩⟩
def rMin2 : List V → Hp → VK → Prop := fun xs H Q => ∃ i j, xs = [.int i, .int j] ∧ Q (.int (if j < i then j else i)) H
theorem cMin2 {X : Cx} (hc : X.calm = true) : CallR X (.builtin "min") rMin2 := call_min2 hc
theorem rd_min2 {i j : Int} (q : Q (.int (if j < i then j else i)) H) : rMin2 [.int i, .int j] H Q := ⟨i, j, rfl, q⟩
def rMax2 : List V → Hp → VK → Prop := fun xs H Q => ∃ i j, xs = [.int i, .int j] ∧ Q (.int (if j > i then j else i)) H
theorem cMax2 {X : Cx} (hc : X.calm = true) : CallR X (.builtin "max") rMax2 := call_max2 hc
theorem rd_max2 {i j : Int} (q : Q (.int (if j > i then j else i)) H) : rMax2 [.int i, .int j] H Q := ⟨i, j, rfl, q⟩
def rInSign : R2 := fun x y H Q => ∃ (c : Nat) (z : Str), x = .str ⟨#[c]⟩ ∧ y = .str z ∧ Q (.bl (decide (c ∈ z.cps.toList))) H
theorem oInSign {X : Cx} : OpR X (compareOp .In) rInSign := op_in_sign
theorem rd_in_sign {c : Nat} {z : Str} (q : Q (.bl (decide (c ∈ z.cps.toList))) H) : rInSign (.str ⟨#[c]⟩) (.str z) H Q := ⟨c, z, rfl, rfl, q⟩
def rIsN : R2 := fun x y H Q => y = .non ∧ Q (.bl (decide (x = .non))) H
def rNotN : R2 := fun x y H Q => y = .non ∧ Q (.bl (!decide (x = .non))) H
theorem oIsN {X : Cx} : OpR X (compareOp .Is) rIsN := op_isN
theorem rd_isN {v : V} (q : Q (.bl (decide (v = .non))) H) : rIsN v .non H Q := ⟨rfl, q⟩
theorem rd_notN {v : V} (q : Q (.bl (!decide (v = .non))) H) : rNotN v .non H Q := ⟨rfl, q⟩
theorem one_sign (h : x.length = 1) : ∃ c, x = ⟨#[c]⟩ := by
  have e : (tl x).length = 1 := by rw [← len_tl]; exact h
  obtain ⟨c, hc⟩ := List.length_eq_one_iff.mp e
  exact ⟨c, ext_tl (by rw [hc, tl_mk])⟩
theorem isLet_len (h : ¬ x.length = 1) : isLet (.str x) = false := by
  unfold isLet
  simp only
  split
  · rename_i c e
    exact absurd (by rw [len_tl, e]; rfl) h
  · rfl
theorem low_list : (("abcdefghijklmnopqrstuvwxyz" : Str)).cps.toList = [97, 98, 99, 100, 101, 102, 103, 104, 105, 106, 107, 108, 109, 110, 111, 112, 113, 114, 115, 116, 117, 118, 119, 120, 121, 122] := by decide +kernel
theorem low_mem (c : Nat) : decide (c ∈ (("abcdefghijklmnopqrstuvwxyz" : Str)).cps.toList) = decide (97 ≤ c ∧ c ≤ 122) := by
  rw [low_list]
  apply decide_eq_decide.mpr
  simp only [List.mem_cons, List.not_mem_nil, or_false]
  omega
theorem isLet_one (c : Nat) : isLet (.str ⟨#[c]⟩) = decide (c ∈ (("abcdefghijklmnopqrstuvwxyz" : Str)).cps.toList) := by rw [low_mem]; rfl
theorem isWd_len (h : ¬ (1 ≤ (tl x).length ∧ (tl x).length ≤ 20)) : isWd (.str x) = false := by
  unfold isWd
  exact decide_eq_false fun z => h ⟨z.1, z.2.1⟩
end
section
variable {a b c d e : Str} {va vb vc vd ve : V}
theorem fl1 : (putF a va []).length < 1000 := Nat.lt_of_le_of_lt (putF_len (k := 0) (Nat.le_refl 0)) (by decide)
theorem fl2 : (putF b vb (putF a va [])).length < 1000 := Nat.lt_of_le_of_lt (putF_len (k := 1) (putF_len (k := 0) (Nat.le_refl 0))) (by decide)
theorem fl3 : (putF c vc (putF b vb (putF a va []))).length < 1000 := Nat.lt_of_le_of_lt (putF_len (k := 2) (putF_len (k := 1) (putF_len (k := 0) (Nat.le_refl 0)))) (by decide)
theorem fl4 : (putF d vd (putF c vc (putF b vb (putF a va [])))).length < 1000 := Nat.lt_of_le_of_lt (putF_len (k := 3) (putF_len (k := 2) (putF_len (k := 1) (putF_len (k := 0) (Nat.le_refl 0))))) (by decide)
end
end L2.Px
set_option Elab.async false
set_option linter.all false
set_option maxRecDepth 100000
set_option maxHeartbeats 1000000
namespace L2.Px
open PySem PySem.Spec PyProof.Rows StX TL
/-- what tLc asks behind the walked thing J -/
def LcW (J : It) (g : TG) (tt : TT) (te : TE) (vs : List Nat) (σ : St) (H1 : Hp) (D : Addr) (Qd : Hp → Prop) : Prop := ∃ W : Nat → Nat → Hp → Prop, (∃ m, W 0 m (upd H1 D (.lst []))) ∧ ∀ i m H, W i m H →
  (J.stop i H ∧ Qd H) ∨ (J.go i H ∧ ∃ Nx : Hp → Prop, (∀ H', Nx H' → ∃ m', m' < m ∧ W (i + 1) m' H') ∧ ∀ x H', J.yld i H x H' → g x (wipe σ vs) H' fun σ2 H2 => wipe σ2 vs = wipe σ vs ∧ tt σ2 H2 fun b H3 =>
    if b = true then te σ2 H3 fun y H4 => ∃ acc, H4 D = some (.lst acc) ∧ acc.length < sizeLine ∧ Nx (upd H4 D (.lst (acc ++ [y]))) else Nx H3)
/-- a walk of n turns whose i-th item is it i, the heap as it is -/
structure Plain (J : It) (n : Nat) (it : Nat → V) (H1 : Hp) : Prop where
  stop : ∀ H, Same H1 H → J.stop n H
  go : ∀ i H, Same H1 H → i < n → J.go i H
  yld : ∀ i H x H', Same H1 H → i < n → J.yld i H x H' → H' = H ∧ x = it i
section
variable {K : PySem.W.Frag} {a : Addr} {xs : List V} {H1 : Hp} {n : Nat} {lo : Int} {x : Str}
theorem plain_list (h : SqL K H1 a xs) : Plain (Itl K a) xs.length (fun i => (xs[i]?).getD .non) H1 where
  stop := fun H s => ⟨xs, s.seq h, Nat.le_refl _⟩
  go := fun i H s hi => ⟨xs, xs[i], s.seq h, by simp [hi]⟩
  yld := fun i H x H' s hi y => ⟨y.1, by rw [y.2 xs (s.seq h)]; rfl⟩
theorem plain_str : Plain (Its x) (tl x).length (fun i => .str ⟨#[(tl x)[i]?.getD 0]⟩) H1 where
  stop := fun H s => by show x.cps.size ≤ _; rw [← len_tl]; exact Nat.le_refl _
  go := fun i H s hi => by show i < x.cps.size; rw [← len_tl] at hi; exact hi
  yld := fun i H y H' s hi h => by
    obtain ⟨e, c, hc, ev⟩ := h
    have e2 : (tl x)[i]? = some c := by show x.cps.toList[i]? = some c; rw [Array.getElem?_toList]; exact hc
    exact ⟨e, by rw [ev, e2]; rfl⟩
theorem plain_rng : Plain (Itr lo n) n (fun i => .int (lo + i)) H1 where
  stop := fun H s => Nat.le_refl _
  go := fun i H s hi => hi
  yld := fun i H x H' s hi y => ⟨y.1, y.2⟩
end
section
variable {J : It} {n : Nat} {it : Nat → V} {H1 : Hp} {tt : TT} {te : TE} {vs : List Nat} {σ : St} {D : Addr} {Qd : Hp → Prop} {j : Nat}
/-- [f x for x in .. if p x], related answers -/
theorem lc_rel (P : Plain J n it H1) (hD : H1 D = none) (hn : n ≤ sizeLine) (hj : ∀ v, wipe ((wipe σ vs).set j (some v)) vs = wipe σ vs) (Rl : Nat → V → Hp → Prop) (mono : ∀ i y H H' l, i < n → H D = some (.lst l) → But D H H' → Rl i y H → Rl i y H')
    (hs : ∀ i H (Q : VK), i < n → Same H1 H → (∀ y H', Same H H' → Rl i y H' → Q y H') → te ((wipe σ vs).set j (some (it i))) H Q)
    (hd : ∀ H ys, Same H1 H → H D = some (.lst ys) → ys.length = n → (∀ i, i < n → ∃ y, ys[i]? = some y ∧ Rl i y H) → Qd H) : LcW J (gName j) tYes te vs σ H1 D Qd := by
  refine ⟨fun i m H => m = n - i ∧ i ≤ n ∧ Same H1 H ∧ ∃ ys, H D = some (.lst ys) ∧ ys.length = i ∧ ∀ k, k < i → ∃ y, ys[k]? = some y ∧ Rl k y H, ⟨_, rfl, Nat.zero_le _, Same.new (Same.refl _) hD, [], upd_same, rfl, fun k hk => absurd hk (Nat.not_lt_zero _)⟩, ?_⟩
  rintro i m H ⟨rfl, hi, S, ys, eD, hl, hr⟩
  by_cases hlt : i < n
  · refine .inr ⟨P.go i H S hlt, fun H' => i + 1 ≤ n ∧ Same H1 H' ∧ ∃ ys, H' D = some (.lst ys) ∧ ys.length = i + 1 ∧ ∀ k, k < i + 1 → ∃ y, ys[k]? = some y ∧ Rl k y H', fun H' z => ⟨n - (i + 1), by omega, rfl, z⟩, fun x H' y => ?_⟩
    obtain ⟨e1, e2⟩ := P.yld i H x H' S hlt y
    subst e1 e2
    refine ⟨hj _, ?_⟩
    refine rd_yes (iteT ?_)
    refine hs i H' _ hlt S fun y2 H2 S2 r => ⟨ys, S2 _ _ eD, by omega, hlt, Same.mut (S.trans S2) hD, ys ++ [y2], upd_same, by simp [hl], fun k hk => ?_⟩
    by_cases hki : k < i
    · obtain ⟨y', h1, h2⟩ := hr k hki
      exact ⟨y', by rw [List.getElem?_append_left (by omega)]; exact h1, mono _ _ _ _ _ (by omega) eD (But.at (But.same S2)) h2⟩
    · have ek : k = i := by omega
      subst ek
      exact ⟨y2, by rw [List.getElem?_append_right (by omega), hl]; simp, mono _ _ _ _ _ (by omega) (S2 _ _ eD) (But.at But.refl) r⟩
  · have e : i = n := by omega
    subst e
    exact .inl ⟨P.stop H S, hd H ys S eD hl hr⟩
/-- the same with plain answers -/
theorem lc_fun (P : Plain J n it H1) (hD : H1 D = none) (hn : n ≤ sizeLine) (hj : ∀ v, wipe ((wipe σ vs).set j (some v)) vs = wipe σ vs) (f : Nat → V)
    (hs : ∀ i H (Q : VK), i < n → Same H1 H → (∀ H', Same H H' → Q (f i) H') → te ((wipe σ vs).set j (some (it i))) H Q)
    (hd : ∀ H, Same H1 H → H D = some (.lst ((List.range n).map f)) → Qd H) : LcW J (gName j) tYes te vs σ H1 D Qd := by
  refine ⟨fun i m H => m = n - i ∧ i ≤ n ∧ Same H1 H ∧ H D = some (.lst ((List.range i).map f)), ⟨_, rfl, Nat.zero_le _, Same.new (Same.refl _) hD, upd_same⟩, ?_⟩
  rintro i m H ⟨rfl, hi, S, eD⟩
  by_cases hlt : i < n
  · refine .inr ⟨P.go i H S hlt, fun H' => i + 1 ≤ n ∧ Same H1 H' ∧ H' D = some (.lst ((List.range (i + 1)).map f)), fun H' z => ⟨n - (i + 1), by omega, rfl, z⟩, fun x H' y => ?_⟩
    obtain ⟨e1, e2⟩ := P.yld i H x H' S hlt y
    subst e1 e2
    refine ⟨hj _, ?_⟩
    refine rd_yes (iteT ?_)
    refine hs i H' _ hlt S fun H2 S2 => ⟨_, S2 _ _ eD, by rw [List.length_map, List.length_range]; omega, hlt, Same.mut (S.trans S2) hD, ?_⟩
    rw [upd_same, List.range_succ, List.map_append]
    rfl
  · have e : i = n := by omega
    subst e
    exact .inl ⟨P.stop H S, hd H S eD⟩
/-- with a test -/
theorem lc_filt (P : Plain J n it H1) (hD : H1 D = none) (hn : n ≤ sizeLine) (hj : ∀ v, wipe ((wipe σ vs).set j (some v)) vs = wipe σ vs) (f : Nat → V) (p : Nat → Bool)
    (ht : ∀ i H (R : Bool → Hp → Prop), i < n → Same H1 H → (∀ H', Same H H' → R (p i) H') → tt ((wipe σ vs).set j (some (it i))) H R)
    (hs : ∀ i H (Q : VK), i < n → p i = true → Same H1 H → (∀ H', Same H H' → Q (f i) H') → te ((wipe σ vs).set j (some (it i))) H Q)
    (hd : ∀ H, Same H1 H → H D = some (.lst (((List.range n).filter p).map f)) → Qd H) : LcW J (gName j) tt te vs σ H1 D Qd := by
  refine ⟨fun i m H => m = n - i ∧ i ≤ n ∧ Same H1 H ∧ H D = some (.lst (((List.range i).filter p).map f)), ⟨_, rfl, Nat.zero_le _, Same.new (Same.refl _) hD, upd_same⟩, ?_⟩
  rintro i m H ⟨rfl, hi, S, eD⟩
  by_cases hlt : i < n
  · refine .inr ⟨P.go i H S hlt, fun H' => i + 1 ≤ n ∧ Same H1 H' ∧ H' D = some (.lst (((List.range (i + 1)).filter p).map f)), fun H' z => ⟨n - (i + 1), by omega, rfl, z⟩, fun x H' y => ?_⟩
    obtain ⟨e1, e2⟩ := P.yld i H x H' S hlt y
    subst e1 e2
    refine ⟨hj _, ht i H' _ hlt S fun H2 S2 => ?_⟩
    cases hp : p i with
    | true =>
      rw [if_pos rfl]
      refine hs i H2 _ hlt hp (S.trans S2) fun H3 S3 => ⟨_, S3 _ _ (S2 _ _ eD), ?_, hlt, Same.mut ((S.trans S2).trans S3) hD, ?_⟩
      · rw [List.length_map]
        have := List.length_filter_le p (List.range i)
        rw [List.length_range] at this
        omega
      · rw [upd_same, List.range_succ, List.filter_append, List.map_append]
        simp [hp]
    | false =>
      rw [if_neg Bool.false_ne_true]
      refine ⟨hlt, S.trans S2, ?_⟩
      rw [S2 _ _ eD, List.range_succ, List.filter_append, List.map_append]
      simp [hp]
  · have e : i = n := by omega
    subst e
    exact .inl ⟨P.stop H S, hd H S eD⟩
end
def ForW (J : It) (g : TG) (tb : TS) (D : Ends) (σ : St) (H1 : Hp) : Prop := ∃ W : Nat → Nat → St → Hp → Prop, (∃ m, W 0 m σ H1) ∧ ∀ i m σ H, W i m σ H →
  (J.stop i H ∧ D.nx σ H) ∨ (J.go i H ∧ ∃ N : St → Hp → Prop, (∀ σ' H', N σ' H' → ∃ m', m' < m ∧ W (i + 1) m' σ' H') ∧ ∀ x H', J.yld i H x H' → g x σ H' fun σ2 H2 => tb { D with nx := N, ct := N, bk := D.nx } σ2 H2)
section
variable {K : PySem.W.Frag} {H : Hp} {Q : VK} {x : Str} {a : Addr} {xs : List V}
theorem rd_all {bs : List Bool} (h : SqL K H a (bs.map V.bl)) (q : Q (.bl (bs.all id)) H) : rAll K [.ref a] H Q := ⟨a, bs, rfl, h, q⟩
theorem isWd_all (h1 : 1 ≤ (tl x).length) (h2 : (tl x).length ≤ 20) : ((List.range (tl x).length).map fun i => isLet (.str ⟨#[(tl x)[i]?.getD 0]⟩)).all id = isWd (.str x) := by
  unfold isWd
  rw [List.all_map]
  have key : (List.range (tl x).length).all (id ∘ fun i => isLet (.str ⟨#[(tl x)[i]?.getD 0]⟩)) = decide (∀ c ∈ tl x, 97 ≤ c ∧ c ≤ 122) := by
    rw [Bool.eq_iff_iff, List.all_eq_true, decide_eq_true_iff]
    constructor
    · intro h c hc
      obtain ⟨i, hi, rfl⟩ := List.getElem_of_mem hc
      have := h i (List.mem_range.mpr hi)
      simp only [Function.comp, id, isLet, tl] at this
      rw [List.getElem?_eq_getElem hi] at this
      simpa [tl] using this
    · intro h i hi
      have hi := List.mem_range.mp hi
      have := h _ (List.getElem_mem hi)
      simp only [Function.comp, id, isLet]
      rw [List.getElem?_eq_getElem hi]
      simpa [tl] using this
  rw [key]
  apply decide_eq_decide.mpr
  constructor
  · intro h; exact ⟨h1, h2, h⟩
  · intro h; exact h.2.2
theorem sign_small (c : Nat) : (⟨#[c]⟩ : Str).length ≤ sizeLine := Nat.le_trans (show 1 ≤ 20 by decide) (by rw [sizeLine_eq]; decide)
theorem rd_iStr {te : TE} {σ : St} {Rr : It → Hp → Prop} (h : te σ H fun v H1 => ∃ x, v = .str x ∧ Rr (Its x) H1) : iStr te σ H Rr := h
end
end L2.Px
namespace L2.Px
open PySem PySem.Spec PyProof.Rows StX TL
section
variable {K : PySem.W.Frag} {H : Hp} {Q : VK} {x y : Str} {a l : Addr} {xs : List V} {v : V} {i : Int} {CP CT : Addr} {ss : List Stp} {s : Stp} {n j : Nat}
theorem two_line : 2 ≤ sizeLine := by rw [sizeLine_eq]; decide
theorem emp_mk : ("" : Str) = mkS [] := by decide +kernel
theorem rd_append (h : H l = some (.lst xs)) (hz : xs.length < sizeLine) (q : Q .non (upd H l (.lst (xs ++ [v])))) : rAppend (.ref l) [v] H Q := ⟨l, xs, v, rfl, rfl, h, hz, q⟩
theorem rd_U {g : Int → V} (q : Q (g i) H) : rU g (.int i) H Q := ⟨i, rfl, q⟩
theorem rd_tyL (h : SqL K H a xs) (q : Prop) (hq : q) : tyV K "list" (.ref a) H ∧ q := ⟨.inl ⟨rfl, _, h⟩, hq⟩
theorem line30 : (30 : Nat) < sizeLine := by rw [sizeLine_eq]; decide
theorem tyL_small {ss : List Stp} (ok : okFrom n ss) : (tyL ss).length ≤ 20 * ss.length := by
  induction ss generalizing n with
  | nil => simp [tyL]
  | cons s r ih =>
    obtain ⟨h1, _, h3⟩ := ok
    have := ih h3
    simp only [tyL, List.length_append, List.length_cons]
    cases s with
    | wr w => have := h1.2.1; rw [len_tl] at this; simp only [ty1]; omega
    | pa f l t => simp only [ty1, List.length_nil]; omega
theorem tyL_line (ok : okFrom n ss) (few : ss.length ≤ 30) : (tyL ss).length ≤ sizeLine := Nat.le_trans (tyL_small ok) (Nat.le_trans (show 20 * ss.length ≤ 600 by omega) (by rw [sizeLine_eq]; decide))
theorem tyL_take_le (j : Nat) : (tyL (ss.take j)).length ≤ (tyL ss).length := by
  conv => rhs; rw [← List.take_append_drop j ss, tyL_append, List.length_append]
  omega
end
end L2.Px
namespace L2.Px
open PySem PySem.Spec PyProof.Rows StX TL
section
variable {K : PySem.W.Frag} {H : Hp} {Q : VK} {E : XK} {CP CT : Addr} {a b : Addr} {xs : List V} {s n f l : Int} {t : Bool} {rs : List V} {ss : List Stp}
/-- a part is made -/
theorem rd_mkPart (q : ∀ x dx Hc, H x = none → Same H Hc → Hc x = some (.ins CP dx (partF s n t f l)) → Q (.ref x) Hc) :
    rMk CP (sp_Part_init CP) E [.int s, .int n, .bl t, .int f, .int l] H Q := by
  intro x dx nx nd ne
  exact ⟨x, dx, s, n, t, f, l, rfl, upd_same, rfl, q x dx _ nx (Same.mut (Same.mut (Same.mut (Same.refl _) nd) nx) nx) upd_same⟩
/-- a text is made -/
theorem rd_mkText (hst : StepsAt K H rs ss) (ok : okFrom 0 ss) (few : ss.length ≤ 30)
    (q : ∀ x Hc t, H x = none → Same H Hc → TextAt K CT CP Hc x t → t.ss = ss → Q (.ref x) Hc) :
    rMk CT (spStar 1 (sp_Text_init K CT CP)) E rs H Q := by
  intro x dx nx nd ne
  have S1 : Same H (upd (upd H dx (.own x)) x (.ins CT dx [])) := Same.mut (Same.mut (Same.refl _) nd) nx
  refine ⟨[.ref x], rs, rfl, rfl, by rw [hst.1]; exact Nat.le_trans few (Nat.le_of_lt line30), fun p np => ?_⟩
  have S2 := Same.new (o := .tup rs) S1 np
  exact ⟨x, dx, p, rs, ss, rfl, lk_new np upd_same, SqT.of upd_same, hst.mono S2, ok, few, fun H' t k T e1 e2 => ⟨rfl, q x H' t nx (fun b o e => k b o (ne_of_none e nx) (S2 _ _ e)) T e1⟩⟩
end
end L2.Px
set_option Elab.async false
set_option linter.all false
set_option maxRecDepth 100000
set_option maxHeartbeats 1000000
namespace L2.Px
open PySem PySem.Spec PyProof.Rows StX TL
section
variable {K : PySem.W.Frag} {σ : St} {H : Hp} {Q : VK} {i j : Int} {x y : Str} {a b : Addr} {xs ys : List V} {te ta tb : TE} {tt : TT} {st : TS} {D : Ends} {t1 t2 : TO} {c : Nat} {v : V}
theorem rd_while (W : Nat → St → Hp → Prop) (h0 : ∃ m, W m σ H) (hs : ∀ m σ H, W m σ H → tt σ H fun b H1 => if b = true then ∃ N : St → Hp → Prop, (∀ σ' H', N σ' H' → ∃ m', m' < m ∧ W m' σ' H') ∧ st { D with nx := N, ct := N, bk := D.nx } σ H1 else D.nx σ H1) : tWhile tt st D σ H := ⟨W, h0, hs⟩
theorem rd_ixS (hz : x.length ≤ sizeLine) (e : atI x.cps.toList i = some c) (h : Q (.str ⟨#[c]⟩) H) : rIx K (.str x) (.int i) H Q := .inr (.inr ⟨x, i, c, rfl, rfl, hz, e, h⟩)
theorem rd_ixSn {j : Nat} (hz : x.length ≤ sizeLine) (e : (tl x)[j]? = some c) (h : Q (.str ⟨#[c]⟩) H) : rIx K (.str x) (.int j) H Q := rd_ixS hz (by rw [atI_nat]; exact e) h
theorem rd_ixLn {j : Nat} (hx : SqL K H a xs) (e : xs[j]? = some v) (h : Q v H) : rIx K (.ref a) (.int j) H Q := rd_ixI h hx (by rw [atI_nat]; exact e)
theorem rd_sl {r : V → Option Int → Option Int → Hp → VK → Prop} (h : te σ H fun x H1 => t1 σ H1 fun l H2 => t2 σ H2 fun u H3 => r x l u H3 Q) : tSl r te t1 t2 σ H Q := h
theorem rd_noPart {R : Option Int → Hp → Prop} (h : R none H) : tNoPart σ H R := h
theorem rd_part {R : Option Int → Hp → Prop} (h : te σ H fun x H1 => ∃ i, x = .int i ∧ R (some i) H1) : tPart te σ H R := h
theorem str_len_app (x y : Str) : (x ++ y).length = x.length + y.length := by rw [len_tl, tl_append, List.length_append, ← len_tl, ← len_tl]
theorem rd_pint {R : Int → Prop} (h : R i) : ∃ i', V.int i = .int i' ∧ R i' := ⟨i, rfl, h⟩
theorem TextAt.typed_small {CT CP : Addr} {t : TxI} (h : TextAt K CT CP H a t) : (mkS (tyL t.ss)).length ≤ sizeLine := by rw [mkS_len]; exact tyL_line h.ok h.few
end
end L2.Px
set_option Elab.async false
set_option linter.all false
set_option maxRecDepth 100000
set_option maxHeartbeats 1000000
namespace L2.Px
open PySem PySem.Spec PyProof.Rows StX TL
theorem twenty_line : 64 ≤ sizeLine := by rw [sizeLine_eq]; decide
theorem four_line : 4 ≤ sizeLine := by rw [sizeLine_eq]; decide
theorem StepsAt.append {K : PySem.W.Frag} {H : Hp} {ms ns : List V} {ss tt : List Stp} (h : StepsAt K H ms ss) (g : StepsAt K H ns tt) : StepsAt K H (ms ++ ns) (ss ++ tt) := by
  refine ⟨by rw [List.length_append, List.length_append, h.1, g.1], fun j s hj => ?_⟩
  by_cases hl : j < ss.length
  · rw [List.getElem?_append_left hl] at hj
    obtain ⟨v, e1, e2⟩ := h.2 j s hj
    exact ⟨v, by rw [List.getElem?_append_left (by rw [h.1]; exact hl)]; exact e1, e2⟩
  · rw [List.getElem?_append_right (by omega)] at hj
    obtain ⟨v, e1, e2⟩ := g.2 _ s hj
    exact ⟨v, by rw [List.getElem?_append_right (by rw [h.1]; omega), h.1]; exact e1, e2⟩
theorem StepsAt.one {K : PySem.W.Frag} {H : Hp} {v : V} {s : Stp} (h : StepAt K H v s) : StepsAt K H [v] [s] := by
  refine ⟨rfl, fun j s' hj => ?_⟩
  cases j with
  | zero => cases hj; exact ⟨v, rfl, h⟩
  | succ j => simp at hj
theorem StepAt.one' {K : PySem.W.Frag} {H : Hp} {v : V} {s : Stp} (h : StepAt K H v s) : StepsAt K H [v] [s] := .one h
def rt1 (k c n : Nat) : Stp → Stp
  | .wr w => if n ≤ k ∧ k < n + w.length then .wr (mkS ((tl w).set (k - n) c)) else .wr w
  | .pa f l t => .pa f l t
theorem rt_cons (k c n : Nat) (s : Stp) (r : List Stp) : rt k c n (s :: r) = rt1 k c n s :: rt k c (n + (ty1 s).length) r := by
  cases s with
  | wr w => simp only [rt, rt1, ty1, ← len_tl]
  | pa f l t => simp only [rt, rt1, ty1, List.length_nil, Nat.add_zero]
theorem rt_append (k c : Nat) : ∀ (n : Nat) (a b : List Stp), rt k c n (a ++ b) = rt k c n a ++ rt k c (n + (tyL a).length) b
  | n, [], b => by simp [rt, tyL]
  | n, s :: a, b => by
    rw [List.cons_append, rt_cons, rt_cons, rt_append k c _ a b, List.cons_append]
    simp only [tyL, List.length_append]
    rw [Nat.add_assoc]
theorem rt_take {k c : Nat} {ss : List Stp} {i : Nat} {s : Stp} (h : ss[i]? = some s) : rt k c 0 (ss.take (i + 1)) = rt k c 0 (ss.take i) ++ [rt1 k c (tyL (ss.take i)).length s] := by
  rw [take_snoc h, rt_append, Nat.zero_add, rt_cons]; rfl
theorem rt_length (k c : Nat) : ∀ (n : Nat) (ss : List Stp), (rt k c n ss).length = ss.length
  | n, [] => rfl
  | n, s :: r => by rw [rt_cons, List.length_cons, rt_length k c _ r, List.length_cons]
theorem len1_mv (n : Nat) (s : Stp) : len1 (mv n s) = len1 s := by
  cases s with
  | wr w => rfl
  | pa f l t => simp only [mv, len1]; rw [show l + n - (f + n) = l - f by omega]
theorem ty1_mv (n : Nat) (s : Stp) : ty1 (mv n s) = ty1 s := by cases s <;> rfl
theorem ok_mv {n m : Nat} {s : Stp} (h : okStep m s) : okStep (m + n) (mv n s) := by
  cases s with
  | wr w => exact h
  | pa f l t => obtain ⟨a, b, c, d⟩ := h; exact ⟨by omega, by omega, c, d⟩
theorem tyL_mv (n : Nat) : ∀ ss : List Stp, tyL (ss.map (mv n)) = tyL ss
  | [] => rfl
  | s :: r => by rw [List.map_cons]; simp only [tyL]; rw [ty1_mv, tyL_mv n r]
theorem ok_mvs (n : Nat) : ∀ (m : Nat) (ss : List Stp), okFrom m ss → m + n + sz ss ≤ 1000000000000000000 → okFrom (m + n) (ss.map (mv n))
  | m, [], _, _ => trivial
  | m, s :: r, ⟨h1, h2, h3⟩, hz => by
    simp only [sz] at hz
    refine ⟨ok_mv h1, by rw [len1_mv]; omega, ?_⟩
    rw [len1_mv, show m + n + len1 s = m + len1 s + n by omega]
    exact ok_mvs n _ r h3 (by omega)
theorem tyL_join (a b : List Stp) : tyL (joinS a b) = tyL a ++ tyL b := by unfold joinS; rw [tyL_append, tyL_mv]
theorem ok_join {a b : List Stp} (ha : okFrom 0 a) (hb : okFrom 0 b) (hz : sz a + sz b ≤ 1000000000000000000) : okFrom 0 (joinS a b) := by
  unfold joinS
  rw [okFrom_append]
  refine ⟨ha, ?_⟩
  exact ok_mvs (sz a) 0 b hb (by omega)
theorem join_length (a b : List Stp) : (joinS a b).length = a.length + b.length := by unfold joinS; rw [List.length_append, List.length_map]
theorem sz_mul {ss : List Stp} {n : Nat} (hn : 1 ≤ n) : sz (mulS ss n) = sz ss * n := by
  unfold mulS
  split
  · rename_i h
    rcases h with h | h
    · rw [h, Nat.mul_one]
    · rw [h, Nat.zero_mul]
  · rename_i h
    have h1 : sz ss ≠ 0 := fun z => h (.inr z)
    rw [sz_append]
    simp only [sz, len1, Nat.add_zero]
    rw [show sz ss - 1 - 0 + 1 = sz ss by omega]
    obtain ⟨m, rfl⟩ : ∃ m, n = m + 1 := ⟨n - 1, by omega⟩
    rw [Nat.add_sub_cancel, Nat.mul_succ]; omega
theorem mul_length (ss : List Stp) (n : Nat) : (mulS ss n).length ≤ ss.length + 1 := by
  unfold mulS
  split
  · omega
  · rw [List.length_append]; simp
theorem ok_mul {ss : List Stp} {n : Nat} (ok : okFrom 0 ss) (hn : 1 ≤ n) (hn2 : n ≤ 1000000000) (hz : sz ss * n ≤ 1000000000000000000) : okFrom 0 (mulS ss n) := by
  have e := sz_mul (ss := ss) hn
  unfold mulS at e ⊢
  split
  · exact ok
  · rename_i h
    rw [if_neg h, sz_append] at e
    have h1 : sz ss ≠ 0 := fun z => h (.inr z)
    have h2 : n ≠ 1 := fun z => h (.inl z)
    rw [okFrom_append]
    refine ⟨ok, ⟨by omega, by omega, by omega, by omega⟩, ?_, trivial⟩
    simp only [sz, Nat.add_zero] at e
    omega
end L2.Px
set_option Elab.async false
set_option linter.all false
set_option maxRecDepth 100000
set_option maxHeartbeats 1000000
namespace L2.Px
open PySem PySem.Spec PyProof.Rows StX TL
section
variable {X : Cx} {K : PySem.W.Frag} {e o tg : Expr} {es : List Expr} {ta te to : TE} {t : TA} {f name : Str} {pos apos cpos p : Pos} {T id : String} {r : V → List V → Hp → VK → Prop}
theorem pe_fldK (hk : X.K = K) (he : PE X e ta) (hb : attributeBase e f X.env (eval e X.env) = eval e X.env) : PE X (.Attribute e f pos) (tFld K ta f) := hk ▸ pe_fld he hb
theorem ixK (hk : X.K = K) : IxR X (rIx K) := hk ▸ ix_seq
theorem addK (hk : X.K = K) : OpR X (binaryOp .Add) (rAddA K) := hk ▸ oAdd
theorem eqK (hk : X.K = K) (hu : X.A.units + 64 < cLine) : OpR X (compareOp .Eq) (rEqA K) := hk ▸ oEq hu
theorem neK (hk : X.K = K) (hu : X.A.units + 64 < cLine) : OpR X (compareOp .NotEq) (rNeA K) := hk ▸ oNe hu
theorem lenK (hk : X.K = K) : CallR X (.builtin "len") (rLenA K) := hk ▸ cLen
theorem listK (hk : X.K = K) : CallR X (.type "list") (rListA K) := hk ▸ cList
theorem tupK (hk : X.K = K) : CallR X (.type "tuple") (rTupA K) := hk ▸ cTup
theorem isiK (hk : X.K = K) : CallR X (.builtin "isinstance") (rIsi K) := hk ▸ call_isi
theorem allK (hk : X.K = K) (hc : X.calm = true) : CallR X (.builtin "all") (rAll K) := hk ▸ cr_all hc
theorem pi_listK {tl : TE} (hk : X.K = K) (hl : PE X o tl) : PI X tg o (iList K tl) := hk ▸ pi_list hl
theorem pi_tupK {tl : TE} (hk : X.K = K) (hl : PE X o tl) : PI X tg o (iTup K tl) := hk ▸ pi_tup hl
theorem pa_starK (hk : X.K = K) (he : PE X e te) (hr : PA X es t) (hs : starEach (.Starred e p :: es) X.env = (true, eval e X.env) :: starEach es X.env := by rfl) : PA X (.Starred e p :: es) (tStar K te t) := hk ▸ pa_star he hr hs
theorem pg_tupK {k : Nat} {t : TGs} {n : Nat} (hk : X.K = K) (hc : X.calm = true) (h : PGs X es t)
    (hn : (assignEach es X.env).length = n := by rfl) (hst : (assignEach es X.env).findIdx? (·.1) = none := by rfl) : PG X (.Tuple es k pos) (gTup K n t) := hk ▸ pg_tup hc h hn hst
theorem pe_bmK (hk : X.K = K) (pa : PlainAttrs T) (slot : Slot T name id) (hty : typeOf (.builtin id) = pure (.type "method_descriptor")) (hm : MtR X id r) (ho : PE X o to) (ha : PA X (e :: es) t)
    (hbase : attributeBase o name X.env (eval o X.env) = eval o X.env := by rfl)
    (hfew : ((backTo cpos (starEach (e :: es) X.env)).all (fun x => !x.1) && (backToKw cpos (keywordEach [] X.env)).all (fun x => x.1.isSome)
      && decide ((e :: es).length + ([] : List Keyword).length + (if ([] : List Keyword).isEmpty then 0 else 1) < 30)) = true := by rfl)
    (hline : (apos.endLine == cpos.line) = true := by rfl) (hs : starEach (e :: es) X.env = (false, eval e X.env) :: starEach es X.env := by rfl) (hplain : (backTo cpos (starEach es X.env)).any (·.1) = false := by rfl) :
    PE X (.Call (.Attribute o name apos) (e :: es) [] cpos) (tBM K T r to t) := hk ▸ pe_bm pa slot hty hm ho ha hbase hfew hline hs hplain
end
/-- the loop of Text.retyped -/
def RtPv (K : PySem.W.Frag) (H : Hp) (a l : Addr) (k c : Nat) (ss : List Stp) (i : Nat) (σ : St) (H' : Hp) : Prop := ∃ ys v5 v6 v7, σ = [some (.ref a), some (.int k), some (.str ⟨#[c]⟩), some (.ref l), some (.int (tyL (ss.take i)).length), v5, v6, v7] ∧ Same H H' ∧ H l = none ∧ H' l = some (.lst ys) ∧ StepsAt K H' ys (rt k c 0 (ss.take i))
theorem RtPv.next {K : PySem.W.Frag} {H Hx : Hp} {a l p : Addr} {k c i : Nat} {ss : List Stp} {s : Stp} {ys : List V} {v6 v7 : Option V} (hs : ss[i]? = some s) (S : Same H Hx) (hl : H l = none) (e : Hx l = some (.lst ys)) (h : StepsAt K Hx ys (rt k c 0 (ss.take i))) (hp : SqT K Hx p (stV (rt1 k c (tyL (ss.take i)).length s))) (few : ss.length ≤ 30)
    {n : Nat} (hn : n = (tyL (ss.take i)).length + (ty1 s).length) {R : Hp → Prop} (q : ∀ H2, RtPv K H a l k c ss (i + 1) [some (.ref a), some (.int k), some (.str ⟨#[c]⟩), some (.ref l), some (.int n), some (.ref p), v6, v7] H2 → R H2) : rAppend (.ref l) [.ref p] Hx fun _ H2 => R H2 := by
  have hi : i < ss.length := (List.getElem?_eq_some_iff.mp hs).1
  refine rd_append e ?_ (q _ ?_)
  · rw [h.1, rt_length, List.length_take]; have := line30; omega
  · have B : But l Hx (upd Hx l (.lst (ys ++ [.ref p]))) := But.at But.refl
    have f := free1_lst e
    refine ⟨ys ++ [.ref p], some (.ref p), v6, v7, ?_, Same.mut S hl, hl, upd_same, ?_⟩
    · rw [tyL_take hs, List.length_append, hn]
    · rw [rt_take hs]
      exact (B.steps f h).append (StepAt.one' ⟨p, rfl, B.tup f hp⟩)
end L2.Px
set_option Elab.async false
set_option linter.all false
set_option maxRecDepth 100000
set_option maxHeartbeats 1000000
namespace L2.Px
open PySem PySem.Spec PyProof.Rows StX TL
/-- the shape of the row -/
def isRow : HO → Prop
  | .lst [.ref _, .int _, .int _, .int _] => True
  | _ => False
/-- all but rows is as it was, and rows keep what they draw from -/
structure Kp (H H' : Hp) : Prop where
  keep : ∀ b o, ¬ isRow o → H b = some o → H' b = some o
  rows : ∀ (b sa : Addr) (i s e : Int), H b = some (.lst [.ref sa, .int i, .int s, .int e]) → ∃ i' s' e' : Int, H' b = some (.lst [.ref sa, .int i', .int s', .int e'])
instance {H H' : Hp} : CoeFun (Kp H H') (fun _ => ∀ b o, ¬ isRow o → H b = some o → H' b = some o) := ⟨Kp.keep⟩
structure RowAt (K : PySem.W.Frag) (H : Hp) (r : Addr) : Prop where
  ex : ∃ (sa : Addr) (sc : List Int) (i : Nat) (s e : Int), H r = some (.lst [.ref sa, .int i, .int s, .int e]) ∧ SqL K H sa (sc.map V.int)
section
variable {K : PySem.W.Frag} {H H' H1 : Hp} {a r p : Addr} {xs ys : List V} {o : HO} {v : V} {s : Stp} {ms ps : List V} {ss : List Stp} {CT CP : Addr} {t : TxI}
theorem Kp.refl : Kp H H := ⟨fun _ _ _ h => h, fun _ _ _ _ _ h => ⟨_, _, _, h⟩⟩
theorem Kp.trans (a : Kp H H1) (b : Kp H1 H') : Kp H H' := ⟨fun c o hc h => b.keep c o hc (a.keep c o hc h), fun c sa i s e h => let ⟨i', s', e', h'⟩ := a.rows c sa i s e h; b.rows c sa i' s' e' h'⟩
theorem Kp.same (e : Same H H') : Kp H H' := ⟨fun b o _ h => e b o h, fun b _ _ _ _ h => ⟨_, _, _, e b _ h⟩⟩
/-- the row is written -/
theorem Kp.row (e : Kp H H') {sa : Addr} {i s n i' s' n' : Int} (h : H' r = some (.lst [.ref sa, .int i, .int s, .int n])) : Kp H (upd H' r (.lst [.ref sa, .int i', .int s', .int n'])) := by
  refine e.trans ⟨fun b w hw q => ?_, fun b sb i1 s1 n1 q => ?_⟩
  · rw [upd_ne fun z => by subst z; rw [h] at q; cases q; exact hw trivial]; exact q
  · by_cases hb : b = r
    · subst hb; rw [h] at q; cases q; exact ⟨_, _, _, upd_same⟩
    · exact ⟨_, _, _, by rw [upd_ne hb]; exact q⟩
theorem nr_tup : ¬ isRow (.tup xs) := id
theorem nr_ins {C dx : Addr} {fs : List (Str × V)} : ¬ isRow (.ins C dx fs) := id
theorem nr_frz {u : HO} {o' : Obj} : ¬ isRow (.frz o' u) := id
def isRef : V → Bool
  | .ref _ => true
  | _ => false
theorem nr_refs (h : ∀ v ∈ xs, isRef v = true) : ¬ isRow (.lst xs) := by
  intro z
  unfold isRow at z
  split at z
  · rename_i e
    simp only [HO.lst.injEq] at e
    subst e
    have := h _ (List.mem_cons_of_mem _ List.mem_cons_self)
    cases this
  · exact z
theorem nr_vals (h : ∀ v ∈ xs, isRef v = false) : ¬ isRow (.lst xs) := by
  intro z
  unfold isRow at z
  split at z
  · rename_i e
    simp only [HO.lst.injEq] at e
    subst e
    have := h _ List.mem_cons_self
    cases this
  · exact z
theorem nr_ints {l : List Int} : ¬ isRow (.lst (l.map V.int)) := nr_vals fun v hv => by obtain ⟨i, _, rfl⟩ := List.mem_map.mp hv; rfl
theorem Kp.tup (e : Kp H H') (h : SqT K H a xs) : SqT K H' a xs := by
  rcases h with (h | ⟨o, h⟩) | h
  · exact .inl (.inl (e _ _ nr_tup h))
  · exact .inl (.inr ⟨o, e _ _ nr_frz h⟩)
  · exact .inr h
theorem Kp.lst (e : Kp H H') (n : ¬ isRow (.lst xs)) (h : SqL K H a xs) : SqL K H' a xs := by
  rcases h with (h | ⟨o, h⟩) | h
  · exact .inl (.inl (e _ _ n h))
  · exact .inl (.inr ⟨o, e _ _ nr_frz h⟩)
  · exact .inr h
theorem RowAt.mono (h : RowAt K H r) (e : Same H H') : RowAt K H' r := let ⟨sa, sc, i, s, n, a, b⟩ := h.ex; ⟨sa, sc, i, s, n, e _ _ a, e.seq b⟩
theorem StepAt.kp (h : StepAt K H v s) (e : Kp H H') : StepAt K H' v s := let ⟨a, ev, q⟩ := h; ⟨a, ev, e.tup q⟩
theorem StepsAt.kp (h : StepsAt K H ms ss) (e : Kp H H') : StepsAt K H' ms ss := ⟨h.1, fun j s q => let ⟨v, a, b⟩ := h.2 j s q; ⟨v, a, b.kp e⟩⟩
theorem StepsAt.refs (h : StepsAt K H ms ss) : ∀ v ∈ ms, isRef v = true := by
  intro v hv
  obtain ⟨j, hj, rfl⟩ := List.getElem_of_mem hv
  obtain ⟨s, _, a, e, _⟩ := h.at (List.getElem?_eq_getElem hj)
  rw [e]; rfl
theorem PartAt.kp {n y : Nat} (h : PartAt CP H v n y s) (e : Kp H H') : PartAt CP H' v n y s := by
  cases s with
  | wr w => obtain ⟨p, dx, ev, q⟩ := h; exact ⟨p, dx, ev, e _ _ nr_ins q⟩
  | pa f l t => obtain ⟨p, dx, ev, q⟩ := h; exact ⟨p, dx, ev, e _ _ nr_ins q⟩
theorem PartsAt.refs (h : PartsAt CP H ps ss) : ∀ v ∈ ps, isRef v = true := by
  intro v hv
  obtain ⟨j, hj, rfl⟩ := List.getElem_of_mem hv
  have hj' : j < ss.length := by rw [← h.1]; exact hj
  obtain ⟨v, e1, e2⟩ := h.2 j _ (List.getElem?_eq_getElem hj')
  rw [List.getElem?_eq_getElem hj] at e1
  cases e1
  cases hs : ss[j] with
  | wr w => rw [hs] at e2; obtain ⟨p, dx, ev, q⟩ := e2; rw [ev]; rfl
  | pa f l t => rw [hs] at e2; obtain ⟨p, dx, ev, q⟩ := e2; rw [ev]; rfl
theorem PartsAt.kp (h : PartsAt CP H ps ss) (e : Kp H H') : PartsAt CP H' ps ss := ⟨h.1, fun j s q => let ⟨v, a, b⟩ := h.2 j s q; ⟨v, a, b.kp e⟩⟩
theorem TextAt.kp (h : TextAt K CT CP H a t) (e : Kp H H') : TextAt K CT CP H' a t := ⟨e _ _ nr_ins h.ins, e.tup h.made, h.stp.kp e, e _ _ (nr_refs h.prt.refs) h.pls, h.prt.kp e, h.ok, h.few⟩
end
theorem take_fin {many : Nat} (h : 1 ≤ many) (x : Int) {Q : VK} {H : Hp} (k : ∀ n : Nat, n < many → Q (.int n) H) : Q (.int (x % (many : Nat))) H := by
  have h1 : 0 ≤ x % (many : Int) := Int.emod_nonneg x (by omega)
  have h2 : x % (many : Int) < (many : Int) := Int.emod_lt_of_pos x (by omega)
  have := k (x % (many : Int)).toNat (by omega)
  rw [Int.toNat_of_nonneg h1] at this
  exact this
theorem row_put {K : PySem.W.Frag} {H H' : Hp} {r sa : Addr} {sc : List Int} {i j : Nat} {s e s' e' : Int} (S : Kp H H') (h : H' r = some (.lst [.ref sa, .int i, .int s, .int e])) (hs : SqL K H' sa (sc.map V.int)) :
    Kp H (upd H' r (.lst [.ref sa, .int j, .int s', .int e'])) ∧ upd H' r (.lst [.ref sa, .int j, .int s', .int e']) r = some (.lst [.ref sa, .int j, .int s', .int e']) ∧ SqL K (upd H' r (.lst [.ref sa, .int j, .int s', .int e'])) sa (sc.map V.int) :=
  ⟨S.row h, upd_same, (Kp.refl.row h).lst nr_ints hs⟩
section
variable (K : PySem.W.Frag)
def sp_x_law_taken : Sp := fun vs H Q _ => ∃ (r : Addr) (many : Nat), vs = [.ref r, .int many] ∧ RowAt K H r ∧ 1 ≤ many ∧ many < 1073741824 ∧ ∀ (n : Nat) H', n < many → Kp H H' → RowAt K H' r → Q (.int n) H'
def okWord (w : Str) (m : Nat) : Prop := 1 ≤ w.length ∧ w.length ≤ m ∧ ∀ c ∈ tl w, c = 97 ∨ c = 98 ∨ c = 99 ∨ c = 122
def sp_x_law_word : Sp := fun vs H Q _ => ∃ (r : Addr) (most : Nat), vs = [.ref r, .int most] ∧ RowAt K H r ∧ 1 ≤ most ∧ most ≤ 20 ∧ ∀ (w : Str) H', okWord w most → Kp H H' → RowAt K H' r → Q (.str w) H'
/-- typed as a, b, c, z -/
def okLs (ss : List Stp) : Prop := ∀ c ∈ tyL ss, c = 97 ∨ c = 98 ∨ c = 99 ∨ c = 122
def sp_x_law_steps : Sp := fun vs H Q _ => ∃ (r : Addr) (count most : Nat), vs = [.ref r, .int count, .int most] ∧ RowAt K H r ∧ count ≤ 30 ∧ 1 ≤ most ∧ most ≤ 1000 ∧
  ∀ a ms ss H', Kp H H' → RowAt K H' r → SqT K H' a ms → StepsAt K H' ms ss → okFrom 0 ss → ss.length ≤ count → sz ss ≤ most → (1 ≤ count → 20 ≤ most → 1 ≤ sz ss) → okLs ss → Q (.ref a) H'
end
end L2.Px
namespace L2.Px
open PySem PySem.Spec PyProof.Rows StX TL
theorem pickL {l : List Nat} {n : Nat} (hn : n < l.length) : ∃ m : Nat, (l.map fun m => V.int (m : Nat))[n]? = some (.int m) ∧ m ∈ l :=
  ⟨l[n], by rw [List.getElem?_map, List.getElem?_eq_getElem hn]; rfl, List.getElem_mem hn⟩
theorem three_line : 3 ≤ sizeLine := by rw [sizeLine_eq]; decide
theorem one_line : 1 ≤ sizeLine := by rw [sizeLine_eq]; decide
theorem nr_nats {l : List Nat} : ¬ isRow (.lst (l.map fun m => V.int (m : Nat))) := nr_vals fun v hv => by obtain ⟨i, _, rfl⟩ := List.mem_map.mp hv; rfl
theorem StepsAt.snoc {K : PySem.W.Frag} {H : Hp} {ms : List V} {ss : List Stp} {v : V} {s : Stp} (h : StepsAt K H ms ss) (g : StepAt K H v s) : StepsAt K H (ms ++ [v]) (ss ++ [s]) := h.append (.one g)
theorem StepsAt.nil {K : PySem.W.Frag} {H : Hp} : StepsAt K H [] [] := ⟨rfl, fun j s h => by simp at h⟩
theorem ok_snoc {ss : List Stp} {s : Stp} (ok : okFrom 0 ss) (h : okStep (sz ss) s) (hz : sz ss + len1 s ≤ 1000000000000000000) : okFrom 0 (ss ++ [s]) := by
  rw [okFrom_append, Nat.zero_add]
  exact ⟨ok, h, hz, trivial⟩
theorem sz_snoc (ss : List Stp) (s : Stp) : sz (ss ++ [s]) = sz ss + len1 s := by rw [sz_append]; simp [sz]
theorem okWord.step {w : Str} {m n : Nat} (h : okWord w m) (hm : m ≤ 20) : okStep n (.wr w) := ⟨h.1, Nat.le_trans h.2.1 hm, fun c hc => by rcases h.2.2 c hc with e | e | e | e <;> omega⟩
theorem rd_ifOr {t u : TT} {st su : TS} {D : Ends} {σ : St} {H : Hp} (P : Hp → Prop) (ha : ∀ Hc, P Hc → st D σ Hc) (h : (∀ Hc, P Hc → (if true = true then st D σ Hc else su D σ Hc)) → tOr t u σ H fun b H1 => if b = true then st D σ H1 else su D σ H1) : tIfS (tOr t u) st su D σ H := h (fun Hc p => by rw [if_pos rfl]; exact ha Hc p)
theorem okLs.wr {ss : List Stp} {x : Str} {m : Nat} (h : okLs ss) (hx : okWord x m) : okLs (ss ++ [.wr x]) := fun c hc => by
  rw [tyL_append] at hc
  rcases List.mem_append.mp hc with hc | hc
  · exact h c hc
  · exact hx.2.2 c (by simpa [tyL, ty1] using hc)
theorem okLs.pa {ss : List Stp} {f l t : Nat} (h : okLs ss) : okLs (ss ++ [.pa f l t]) := fun c hc => by
  rw [tyL_append] at hc
  rcases List.mem_append.mp hc with hc | hc
  · exact h c hc
  · simp [tyL, ty1] at hc
/-- _law_steps's loop -/
def LsPv (K : PySem.W.Frag) (H : Hp) (r : Addr) (count most i : Nat) (σ : St) (H' : Hp) : Prop := ∃ l ms ss v5 v6 v7 v8 v9, σ = [some (.ref r), some (.int (count : Nat)), some (.int (most : Nat)), some (.ref l), some (.int (sz ss : Nat)), v5, v6, v7, v8, v9] ∧ Kp H H' ∧ RowAt K H' r ∧ H' l = some (.lst ms) ∧ StepsAt K H' ms ss ∧ okFrom 0 ss ∧ ss.length ≤ i ∧ sz ss ≤ most ∧ (1 ≤ i → 20 ≤ most → 1 ≤ sz ss) ∧ okLs ss
end L2.Px
set_option Elab.async false
set_option linter.all false
set_option maxRecDepth 100000
set_option maxHeartbeats 1000000
namespace L2.Px
open PySem PySem.Spec PyProof.Rows StX
/-- what a class must have for == and != by its own __eq__ -/
structure EOwn (K : PySem.W.Frag) (C f : Addr) : Prop where
  at_ : PySem.W.findIn K (.ref C) "__eq__" = some (some (.ref f))
  fn : PySem.W.isFn K (.ref f) = true
  n1 : PySem.W.notFirst K C (.ref C) = true
  n2 : PySem.W.notFirst K C (.type "tuple") = true
  ne : PySem.W.findIn K (.ref C) "__ne__" = some (some (.builtin "object.__ne__"))
  obj : PySem.W.mroIn K C (.type "object") = some true
section
variable {X : Cx} {CX : CXT} {k : Nat} {C f : Addr} {sp : Sp} {E : XK}
def rEqO (K : PySem.W.Frag) (C : Addr) (sp : Sp) (E : XK) : R2 := fun x y H Q => ∃ a b, x = .ref a ∧ y = .ref b ∧ InsA H a C ∧ (InsA H b C ∨ ∃ xs, SqT K H b xs) ∧ sp [.ref a, .ref b] H Q E
def rNeO (C : Addr) (sp : Sp) (E : XK) : R2 := fun x y H Q => ∃ a b, x = .ref a ∧ y = .ref b ∧ InsA H a C ∧ InsA H b C ∧ sp [.ref a, .ref b] H (fun v H' => ∃ k, v = .bl k ∧ Q (.bl (!k)) H') E
theorem op_eqO (b : EOwn X.K C f) (F : FnR X.prog X.w X.K X.mg X.base CX k f sp) (hr : Room k X.A) (hx : Passes CX X E) : OpR X (compareOp .Eq) (rEqO X.K C sp E) := by
  intro pins s σ H x y v u Q I rx ry h
  obtain ⟨a, c, rfl, rfl, ia, ic, q⟩ := h
  obtain rfl : v = Value.ref a := rx
  obtain rfl : u = Value.ref c := ry
  obtain ⟨ox, od, J⟩ := ia.at I
  obtain ⟨m, Fr0⟩ := I.fr
  have hu : X.A.units < cLine := by have := hr.units; omega
  have main : wpAny (model X.prog X.w) X.A (call (.ref f) [.ref a, .ref c]) (PySem.W.CmpBack (EP X pins σ Q)) X.xe s :=
    wpAny_call (codeAny_mono (run_fnR (us := [.ref a, .ref c]) (vs := [.ref a, .ref c]) F hr hx I (.cons rfl (.cons rfl .nil)) q) fun r s' hq => by
      cases r with
      | error e => exact hq
      | ok fl =>
        cases fl with
        | ret w =>
          obtain ⟨v', H', I', rv, q'⟩ := hq
          exact ncb rv ⟨v', H', I', rv, q'⟩
        | next => exact hq
        | brk => exact hq
        | cont => exact hq)
  show wpAny (model X.prog X.w) X.A (richCompare .Eq (.ref a) (.ref c)) (EP X pins σ Q) X.xe s
  rcases ic with ic | ⟨xs, hq⟩
  · obtain ⟨oy, od', J'⟩ := ic.at I
    exact PySem.W.cmp_K (op := .Eq) hu Fr0 I.ok.mod.kin J J'.type b.n1 b.at_ b.fn main
  · obtain ⟨its, rv, p, hz⟩ := I.tuple hq
    obtain ⟨o, ho, hc⟩ : ∃ o, s.heap.get? c = some o ∧ o.cls = .type "tuple" := by
      obtain ⟨o, ho, hc, _⟩ := p
      exact ⟨o, ho, hc⟩
    have ty : PySem.W.Looks (model X.prog X.w) s.heap (typeOf (.ref c)) o.cls := (PySem.W.Looks.ld ho).andThen .now
    rw [hc] at ty
    exact PySem.W.cmp_K (op := .Eq) hu Fr0 I.ok.mod.kin J ty b.n2 b.at_ b.fn main
theorem oEqO (G : XOk X.prog X.w X.K X.mg X.base CX k (EOwn X.K C) sp) (hr : Room k X.A) (hx : Passes CX X E) : OpR X (compareOp .Eq) (rEqO X.K C sp E) := let ⟨_, F, r⟩ := G; op_eqO r F hr hx
theorem rd_eqO {K : PySem.W.Frag} {a b : Addr} {H : Hp} {Q : VK} (i : InsA H a C) (j : InsA H b C) (h : sp [.ref a, .ref b] H Q E) : rEqO K C sp E (.ref a) (.ref b) H Q := ⟨a, b, rfl, rfl, i, .inl j, h⟩
theorem rd_eqOT {K : PySem.W.Frag} {a b : Addr} {H : Hp} {Q : VK} {xs : List V} (i : InsA H a C) (j : SqT K H b xs) (h : sp [.ref a, .ref b] H Q E) : rEqO K C sp E (.ref a) (.ref b) H Q := ⟨a, b, rfl, rfl, i, .inr ⟨xs, j⟩, h⟩
theorem rd_neO {a b : Addr} {H : Hp} {Q : VK} (i : InsA H a C) (j : InsA H b C) (h : sp [.ref a, .ref b] H (fun v H' => ∃ k, v = .bl k ∧ Q (.bl (!k)) H') E) : rNeO C sp E (.ref a) (.ref b) H Q := ⟨a, b, rfl, rfl, i, j, h⟩
end
end L2.Px
namespace L2.Px
open PySem PySem.Spec PyProof.Rows StX TL
mutual
theorem eqv_refl : ∀ d : PyData, d.canLay0 = true → PyData.eqv d d = true
  | .none, _ => by simp only [PyData.eqv]
  | .bool b, _ => by simp [PyData.eqv]
  | .int i, _ => by simp [PyData.eqv]
  | .str x, _ => by simp [PyData.eqv]
  | .list xs, h => by
    have h' : PyData.canLayAll0 xs = true := by simpa [PyData.canLay0] using h
    simp only [PyData.eqv]; exact eqvAll_refl xs h'
  | .tuple xs, h => by
    have h' : PyData.canLayAll0 xs = true := by simpa [PyData.canLay0] using h
    simp only [PyData.eqv]; exact eqvAll_refl xs h'
  | .dict _, h => by simp [PyData.canLay0] at h
theorem eqvAll_refl : ∀ ds : List PyData, PyData.canLayAll0 ds = true → PyData.eqvAll ds ds = true
  | [], _ => by simp only [PyData.eqvAll]
  | d :: ds, h => by
    have h' : PyData.canLay0 d = true ∧ PyData.canLayAll0 ds = true := by simpa [PyData.canLayAll0] using h
    simp only [PyData.eqvAll, Bool.and_eq_true]
    exact ⟨eqv_refl d h'.1, eqvAll_refl ds h'.2⟩
end
/-- data whose depth is at most n -/
def DOk (n : Nat) (d : PyData) : Prop := d.canLay0 = true ∧ d.depth ≤ n
def DOkAll (n : Nat) (ds : List PyData) : Prop := PyData.canLayAll0 ds = true ∧ PyData.depthAll ds ≤ n
theorem DOk.shaped {n : Nat} {d : PyData} (h : DOk n d) (hn : n ≤ 64 := by decide) : SeqAt.shaped d = true := by
  unfold SeqAt.shaped
  rw [h.1, Bool.true_and]
  exact decide_eq_true (Nat.le_trans h.2 hn)
theorem DOkAll.of {n : Nat} {ds : List PyData} (h : ∀ d ∈ ds, DOk n d) : DOkAll n ds := by
  induction ds with
  | nil => exact ⟨by simp [PyData.canLayAll0], by simp [PyData.depthAll]⟩
  | cons d ds ih =>
    have h1 := h d List.mem_cons_self
    have h2 := ih fun e he => h e (List.mem_cons_of_mem _ he)
    refine ⟨by simp only [PyData.canLayAll0, Bool.and_eq_true]; exact ⟨h1.1, h2.1⟩, ?_⟩
    have a := h1.2; have b := h2.2
    simp only [PyData.depthAll]
    omega
theorem DOk.lst {n : Nat} {ds : List PyData} (h : ∀ d ∈ ds, DOk n d) : DOk (n + 1) (.list ds) := by
  have := DOkAll.of h
  exact ⟨by simp only [PyData.canLay0]; exact this.1, by simp only [PyData.depth]; have := this.2; omega⟩
theorem DOk.tup {n : Nat} {ds : List PyData} (h : ∀ d ∈ ds, DOk n d) : DOk (n + 1) (.tuple ds) := by
  have := DOkAll.of h
  exact ⟨by simp only [PyData.canLay0]; exact this.1, by simp only [PyData.depth]; have := this.2; omega⟩
theorem DOk.int {i : Int} : DOk 0 (.int i) := ⟨by simp [PyData.canLay0], by simp [PyData.depth]⟩
theorem DOk.bool {i : Bool} : DOk 0 (.bool i) := ⟨by simp [PyData.canLay0], by simp [PyData.depth]⟩
theorem DOk.non : DOk 0 .none := ⟨by simp [PyData.canLay0], by simp [PyData.depth]⟩
theorem DOk.str {x : Str} (h : PySem.PyData.strOk x = true) : DOk 0 (.str x) := ⟨by simp [PyData.canLay0, h], by simp [PyData.depth]⟩
theorem DOk.mono {n m : Nat} {d : PyData} (h : DOk n d) (hn : n ≤ m) : DOk m d := ⟨h.1, Nat.le_trans h.2 hn⟩
end L2.Px
namespace L2.Px
open PySem PySem.Spec PyProof.Rows StX TL
theorem strOk_of {x : Str} (h : ∀ c ∈ tl x, c ≤ 122) : PySem.PyData.strOk x = true := by
  unfold PySem.PyData.strOk
  rw [Array.all_eq_true']
  intro c hc
  have := h c (show c ∈ x.cps.toList from Array.mem_toList_iff.mpr hc)
  exact decide_eq_true (by omega)
def stD : Stp → PyData
  | .wr w => .tuple [.str "write", .str w]
  | .pa f l t => .tuple [.str "paste", .int f, .int l, .int t]
theorem stD_eq (s t : Stp) : PyData.eqv (stD s) (stD t) = decide (s = t) := by
  cases s <;> cases t <;> simp [stD, PyData.eqv, PyData.eqvAll, Bool.beq_eq_decide_eq, Int.natCast_inj]
theorem stDs_eq : ∀ a b : List Stp, PyData.eqvAll (a.map stD) (b.map stD) = decide (a = b)
  | [], [] => by simp [PyData.eqvAll]
  | [], _ :: _ => by simp [PyData.eqvAll]
  | _ :: _, [] => by simp [PyData.eqvAll]
  | s :: a, t :: b => by
    simp only [List.map_cons, PyData.eqvAll, stD_eq, stDs_eq a b]
    by_cases h : s = t <;> by_cases h2 : a = b <;> simp [h, h2]
section
variable {K : PySem.W.Frag} {H : Hp} {v w : V} {s : Stp} {ms xs : List V} {ss : List Stp} {ds : List PyData} {Q : VK} {n : Nat} {d : PyData}
theorem StepAt.dp (h : StepAt K H v s) : Dp K H v (stD s) := by
  obtain ⟨a, rfl, q⟩ := h
  cases s with
  | wr w => exact .tup q (.cons (.str _) (.cons (.str _) .nil))
  | pa f l t => exact .tup q (.cons (.str _) (.cons (.int _) (.cons (.int _) (.cons (.int _) .nil))))
theorem dpAll_of (hl : xs.length = ds.length) (h : ∀ (i : Nat) (v : V) (d : PyData), xs[i]? = some v → ds[i]? = some d → Dp K H v d) : DpAll K H xs ds := by
  induction xs generalizing ds with
  | nil => cases ds with
    | nil => exact .nil
    | cons d ds => simp at hl
  | cons x xs ih =>
    cases ds with
    | nil => simp at hl
    | cons d ds => exact .cons (h 0 x d rfl rfl) (ih (by simpa using hl) fun i v d a b => h (i + 1) v d (by simpa using a) (by simpa using b))
theorem StepsAt.dp (h : StepsAt K H ms ss) : DpAll K H ms (ss.map stD) := by
  refine dpAll_of (by rw [List.length_map, h.1]) fun i v d a b => ?_
  rw [List.getElem?_map] at b
  obtain ⟨s, hs, rfl⟩ := Option.map_eq_some_iff.mp b
  obtain ⟨v', e1, e2⟩ := h.2 i s hs
  rw [a] at e1; cases e1
  exact e2.dp
theorem okStep.dok {m : Nat} (h : okStep m s) : DOk 1 (stD s) := by
  cases s with
  | wr w =>
    refine .tup (n := 0) fun d hd => ?_
    simp only [List.mem_cons, List.not_mem_nil, or_false] at hd
    rcases hd with rfl | rfl
    · exact .str (by decide +kernel)
    · exact .str (strOk_of fun c hc => (h.2.2 c hc).2)
  | pa f l t =>
    refine .tup (n := 0) fun d hd => ?_
    simp only [List.mem_cons, List.not_mem_nil, or_false] at hd
    rcases hd with rfl | rfl | rfl | rfl
    · exact .str (by decide +kernel)
    · exact .int
    · exact .int
    · exact .int
theorem steps_dok (ok : okFrom 0 ss) : DOk 2 (.tuple (ss.map stD)) := by
  refine .tup fun d hd => ?_
  obtain ⟨s, hs, rfl⟩ := List.mem_map.mp hd
  obtain ⟨i, hi, rfl⟩ := List.getElem_of_mem hs
  exact (ok_at ok (List.getElem?_eq_getElem hi)).1.dok
theorem dp_nats {l : List Nat} : DpAll K H (l.map fun m => V.int (m : Nat)) (l.map fun m => PyData.int (m : Nat)) := by
  induction l with
  | nil => exact .nil
  | cons x l ih => exact .cons (.int _) ih
theorem nats_dok {l : List Nat} : DOk 1 (.list (l.map fun m => PyData.int (m : Nat))) := .lst fun d hd => by obtain ⟨i, _, rfl⟩ := List.mem_map.mp hd; exact .int
theorem rd_ne_same (hv : Dp K H v d) (hw : Dp K H w d) (ok : DOk n d) (hn : n ≤ 64) (q : Q (.bl false) H) : rNeA K v w H Q := rd_ne_dat hv hw (ok.shaped hn) (ok.shaped hn) (by rw [eqv_refl d ok.1]; exact q)
structure ClsG (K : PySem.W.Frag) (C : Addr) : Prop where
  ha : PySem.W.findIn K (.ref C) "__class__" = some (some (.builtin "object.__class__"))
  hn : PySem.W.specialIn K (.builtin "object.__class__") "__get__" = some (some (.builtin "getset_descriptor.__get__"))
  ht : PySem.W.takesIn K (.builtin "object.__class__") = some true
  hm : PySem.W.mroIn K C (.type "object") = some true
theorem rd_isi_own {a C : Addr} {dx : Addr} {fs : List (Str × V)} {b : Bool} {D : Addr} (h : H a = some (.ins C dx fs)) (c : Cls K C) (g : ClsG K C) (e : PySem.W.kitOne K (.ref C) (.ref D) = some b) (q : Q (.bl b) H) : rIsi K [.ref a, .ref D] H Q := rd_isi (.own D) (TyX.base (.ins h c g.ha g.hn g.ht g.hm)) e q
theorem rd_isi_tupO {a : Addr} {b : Bool} {D : Addr} (h : SqT K H a xs) (e : PySem.W.kitOne K (.type "tuple") (.ref D) = some b) (q : Q (.bl b) H) : rIsi K [.ref a, .ref D] H Q := rd_isi (.own D) (ty_tup h) e q
variable (K) (CT CP : Addr)
def sp_Text_eq : Sp := fun vs H Q _ => ∃ a b t, vs = [.ref a, .ref b] ∧ TextAt K CT CP H a t ∧ ((∃ u, TextAt K CT CP H b u ∧ Q (.bl (decide (t.ss = u.ss))) H) ∨ ∃ xs, SqT K H b xs ∧ Q (.bl false) H)
end
end L2.Px
set_option Elab.async false
set_option linter.all false
set_option maxRecDepth 100000
set_option maxHeartbeats 1000000
namespace L2.Px
open PySem PySem.Spec PyProof.Rows StX TL
/-- alike, to a depth: equal ints or texts, or tuples (lists) of alike items -/
def Al (K : PySem.W.Frag) (H : Hp) : Nat → V → V → Prop
  | 0, _, _ => False
  | n + 1, v, w => (∃ i, v = .int i ∧ w = .int i) ∨ (∃ x, v = .str x ∧ w = .str x ∧ x.length ≤ sizeLine) ∨ ∃ a b xs ys, v = .ref a ∧ w = .ref b ∧ (SqT K H a xs ∧ SqT K H b ys ∨ SqL K H a xs ∧ SqL K H b ys) ∧ xs.length = ys.length ∧ xs.length ≤ sizeLine ∧ ∀ (i : Nat) x y, xs[i]? = some x → ys[i]? = some y → Al K H n x y
section
variable {K : PySem.W.Frag} {H H' : Hp} {Q : VK} {v w : V} {n : Nat} {xs : List V} {a : Addr}
theorem Al.mono (e : Same H H') : ∀ {n : Nat} {v w : V}, Al K H n v w → Al K H' n v w
  | 0, _, _, h => h.elim
  | n + 1, _, _, h => by
    rcases h with h | h | ⟨a, b, xs, ys, h1, h2, h3, h4, h5, h6⟩
    · exact .inl h
    · exact .inr (.inl h)
    · refine .inr (.inr ⟨a, b, xs, ys, h1, h2, ?_, h4, h5, fun i x y p q => Al.mono e (h6 i x y p q)⟩)
      rcases h3 with ⟨p, q⟩ | ⟨p, q⟩
      · exact .inl ⟨Same.tup e p, Same.tup e q⟩
      · exact .inr ⟨e.seq p, e.seq q⟩
end
end L2.Px
namespace L2.Px
open PySem PySem.Spec PyProof.Rows StX TL
section
variable {K : PySem.W.Frag} {H H' : Hp} {Q : VK} {v w : V} {n : Nat} {xs : List V} {a : Addr} {σ : St} {te ta tb : TE} {i j : Int} {tr : St → Hp → (Int → Int → Hp → Prop) → Prop}
theorem rgV_nat (a b : Nat) : rgV (a : Nat) (b : Nat) = (List.range' a (b - a)).map fun m => V.int (m : Nat) := by
  unfold rgV
  rw [List.range'_eq_map_range, List.map_map, show (((b : Nat) : Int) - (a : Nat)).toNat = b - a by omega]
  apply List.map_congr_left
  intro i _
  simp
theorem rd_listRg (h : tr σ H fun a b H1 => RgOk a b ∧ ∀ q, H1 q = none → Q (.ref q) (upd H1 q (.lst (rgV a b)))) : tLstRg tr σ H Q := h
theorem rd_rg1 {R : Int → Int → Hp → Prop} (h : ta σ H fun x H1 => ∃ n, x = .int n ∧ R 0 n H1) : tRg1 ta σ H R := h
theorem rd_rg2 {R : Int → Int → Hp → Prop} (h : ta σ H fun x H1 => tb σ H1 fun y H2 => ∃ i j, x = .int i ∧ y = .int j ∧ R i j H2) : tRg2 ta tb σ H R := h
end
end L2.Px
namespace L2.Px
open PySem PySem.Spec PyProof.Rows StX TL
section
variable {K : PySem.W.Frag} {H H' : Hp} {Q : VK} {v w : V} {n : Nat} {xs : List V} {a C : Addr} {σ : St} {ta tb : TE} {sp : Sp} {E : XK} {t : TA} {ss : List Stp} {ms : List V}
theorem rd_ixO (h : ta σ H fun x H1 => tb σ H1 fun y H2 => ∃ a, x = .ref a ∧ InsA H2 a C ∧ sp [x, y] H2 Q E) : tIxOwn C sp E ta tb σ H Q := h
theorem rd_ref1 {A : Addr → Prop} (h : A a) : ∃ a', V.ref a = .ref a' ∧ A a' := ⟨a, rfl, h⟩
theorem letters_ok : ∀ {ss : List Stp} {n : Nat}, okFrom n ss → ∀ c ∈ tyL ss, 97 ≤ c ∧ c ≤ 122
  | [], _, _, c, hc => by simp [tyL] at hc
  | .wr w :: r, n, ⟨h1, _, h3⟩, c, hc => by
    simp only [tyL, ty1, List.mem_append] at hc
    rcases hc with hc | hc
    · exact h1.2.2 c hc
    · exact letters_ok h3 c hc
  | .pa f l t :: r, n, ⟨h1, _, h3⟩, c, hc => by
    simp only [tyL, ty1, List.nil_append] at hc
    exact letters_ok h3 c hc
theorem Al.int {i : Int} : Al K H (n + 1) (.int i) (.int i) := .inl ⟨i, rfl, rfl⟩
theorem Al.str {x : Str} (h : x.length ≤ sizeLine) : Al K H (n + 1) (.str x) (.str x) := .inr (.inl ⟨x, rfl, rfl, h⟩)
theorem Al.step {s : Stp} {m : Nat} (ok : okStep m s) (h : StepAt K H v s) (g : StepAt K H w s) : Al K H (n + 2) v w := by
  obtain ⟨a, rfl, qa⟩ := h
  obtain ⟨b, rfl, qb⟩ := g
  refine .inr (.inr ⟨a, b, _, _, rfl, rfl, .inl ⟨qa, qb⟩, rfl, ?_, fun i x y hx hy => ?_⟩)
  · have := four_line
    cases s <;> simp [stV] <;> omega
  · rw [hx] at hy; cases hy
    have hm := List.mem_of_getElem? hx
    cases s with
    | wr w =>
      simp only [stV, List.mem_cons, List.not_mem_nil, or_false] at hm
      rcases hm with rfl | rfl
      · exact Al.str (str_small (by decide +kernel))
      · exact Al.str (str_small ok.2.1)
    | pa f l t =>
      simp only [stV, List.mem_cons, List.not_mem_nil, or_false] at hm
      rcases hm with rfl | rfl | rfl | rfl
      · exact Al.str (str_small (by decide +kernel))
      · exact Al.int
      · exact Al.int
      · exact Al.int
theorem Al.steps {a b : Addr} {xs ys : List V} (ok : okFrom 0 ss) (ha : SqT K H a xs) (hb : SqT K H b ys) (h : StepsAt K H xs ss) (g : StepsAt K H ys ss) (few : ss.length ≤ 31) : Al K H (n + 3) (.ref a) (.ref b) := by
  refine .inr (.inr ⟨a, b, _, _, rfl, rfl, .inl ⟨ha, hb⟩, by rw [h.1, g.1], by rw [h.1]; have := twenty_line; omega, fun i x y hx hy => ?_⟩)
  obtain ⟨s, hs, h1⟩ := h.at hx
  obtain ⟨s2, hs2, h2⟩ := g.at hy
  rw [hs] at hs2; cases hs2
  exact Al.step (ok_at ok hs).1 h1 h2
variable (K) (CT CP : Addr)
end
end L2.Px
namespace L2.Px
open PySem PySem.Spec PyProof.Rows StX TL
end L2.Px
namespace L2.Px
open PySem PySem.Spec PyProof.Rows StX TL
/-- the law itself: script's list is given -/
def sp_law (K : PySem.W.Frag) : Sp := fun vs H Q _ => ∃ (a : Addr) (sc : List Int), vs = [.ref a] ∧ SqL K H a (sc.map V.int) ∧ ∀ H', Q (.bl true) H'
end L2.Px
namespace L2.Px
open PySem PySem.Spec PyProof.Rows StX TL
def rJoin (K : PySem.W.Frag) : V → List V → Hp → VK → Prop := fun x xs H Q => ∃ a p, ∃ ys : List Str, x = .str a ∧ xs = [.ref p] ∧ (SqL K H p (ys.map V.str) ∨ SqT K H p (ys.map V.str)) ∧ (ys.map (·.length)).sum + ys.length * a.length ≤ 16777216 ∧ Q (.str (Txt.join a ys)) H
theorem pe_joinK {X : Cx} {K : PySem.W.Frag} {o e : Expr} {to te : TE} {apos pos : Pos} (hk : X.K = K) (ho : PE X o to) (he : PE X e te) (hs : starEach [e] X.env = [(false, eval e X.env)] := by rfl) (hbase : attributeBase o "join" X.env (eval o X.env) = eval o X.env := by rfl) (hline : (apos.endLine == pos.line) = true := by rfl) :
    PE X (.Call (.Attribute o "join" apos) [e] [] pos) (tM1 (rJoin K) to te) := hk ▸ pe_join ho he hs hbase hline
theorem rd_m1 {r : V → List V → Hp → VK → Prop} {to te : TE} {σ : St} {H : Hp} {Q : VK} (h : to σ H fun x H1 => (∃ a, x = .str a) ∧ te σ H1 fun y H2 => r x [y] H2 Q) : tM1 r to te σ H Q := h
end L2.Px
set_option Elab.async false
set_option linter.all false
set_option maxRecDepth 100000
set_option maxHeartbeats 1000000
namespace L2.Px
open PySem PySem.Spec PyProof.Rows StX TL
/-- the text of steps ss stands at a -/
def TX (K : PySem.W.Frag) (CT CP : Addr) (H : Hp) (a : Addr) (ss : List Stp) : Prop := ∃ t, TextAt K CT CP H a t ∧ t.ss = ss
/-- a list or a tuple of the steps ss -/
def SX (K : PySem.W.Frag) (H : Hp) (a : Addr) (ss : List Stp) : Prop := ∃ ms, (SqT K H a ms ∨ H a = some (.lst ms)) ∧ StepsAt K H ms ss
/-- a tuple of the steps ss -/
def TS' (K : PySem.W.Frag) (H : Hp) (a : Addr) (ss : List Stp) : Prop := ∃ ms, SqT K H a ms ∧ StepsAt K H ms ss
def natV (L : List Nat) : List V := L.map fun m => V.int (m : Nat)
def kat (ss : List Stp) (p : Nat) : Nat := (ks ss)[p]?.getD 0
def lat (ss : List Stp) (k : Nat) : Nat := (tyL ss)[k]?.getD 0
section
variable {K : PySem.W.Frag} {CT CP : Addr} {H H' : Hp} {Q : VK} {E : XK} {a b r : Addr} {ss tt : List Stp} {i j : Int} {v : V} {o : HO} {xs : List V} {L : List Nat}
theorem TX.kp (h : TX K CT CP H a ss) (e : Kp H H') : TX K CT CP H' a ss := let ⟨t, T, q⟩ := h; ⟨t, T.kp e, q⟩
theorem TX.ok (h : TX K CT CP H a ss) : okFrom 0 ss := let ⟨t, T, q⟩ := h; q ▸ T.ok
theorem TX.few (h : TX K CT CP H a ss) : ss.length ≤ 30 := let ⟨t, T, q⟩ := h; q ▸ T.few
theorem TX.insA (h : TX K CT CP H a ss) : InsA H a CT := let ⟨t, T, q⟩ := h; T.insA
theorem TX.insM {m : Str} (h : TX K CT CP H a ss) (hm : m ≠ "total" ∧ m ≠ "parts" ∧ m ≠ "typed" ∧ m ≠ "made" := by decide +kernel) : InsM H a CT m := let ⟨t, T, q⟩ := h; T.insM hm
theorem SX.kp (h : SX K H a ss) (e : Kp H H') : SX K H' a ss := let ⟨ms, q, s⟩ := h; ⟨ms, q.elim (fun q => .inl (e.tup q)) (fun q => .inr (e _ _ (nr_refs s.refs) q)), s.kp e⟩
theorem TS'.kp (h : TS' K H a ss) (e : Kp H H') : TS' K H' a ss := let ⟨ms, q, s⟩ := h; ⟨ms, e.tup q, s.kp e⟩
theorem TS'.sx (h : TS' K H a ss) : SX K H a ss := let ⟨ms, q, s⟩ := h; ⟨ms, .inl q, s⟩
theorem nr_natV {L : List Nat} : ¬ isRow (.lst (natV L)) := nr_nats
theorem natV_len (L : List Nat) : (natV L).length = L.length := List.length_map _
theorem sl : sizeLine = 16777216 := sizeLine_eq
theorem kat_some (ok : okFrom 0 ss) {p : Nat} (h : p < sz ss) : (ks ss)[p]? = some (kat ss p) := by
  unfold kat; rw [List.getElem?_eq_getElem (by rw [ks_len ok]; exact h)]; rfl
theorem kat_lt (ok : okFrom 0 ss) {p : Nat} (h : p < sz ss) : kat ss p < (tyL ss).length := ks_lt (List.mem_of_getElem? (kat_some ok h))
theorem lat_some {k : Nat} (h : k < (tyL ss).length) : (tyL ss)[k]? = some (lat ss k) := by
  unfold lat; rw [List.getElem?_eq_getElem h]; rfl
theorem lat_let (ok : okFrom 0 ss) {k : Nat} (h : k < (tyL ss).length) : 97 ≤ lat ss k ∧ lat ss k ≤ 122 := letters_ok ok _ (List.mem_of_getElem? (lat_some h))
theorem Same.lk (h : H a = some o) (s : Same H H') : H' a = some o := s _ _ h
theorem rd_taken (row : RowAt K H r) (h1 : 1 ≤ i) (h2 : i < 1073741824) (q : ∀ (n : Nat) H', (n : Int) < i → Kp H H' → RowAt K H' r → Q (.int n) H') : sp_x_law_taken K [.ref r, .int i] H Q E :=
  ⟨r, i.toNat, by rw [Int.toNat_of_nonneg (by omega)], row, by omega, by omega, fun n H' hn k w => q n H' (by omega) k w⟩
theorem rd_word (row : RowAt K H r) (h1 : 1 ≤ i) (h2 : i ≤ 20) (q : ∀ (w : Str) H', okWord w i.toNat → Kp H H' → RowAt K H' r → Q (.str w) H') : sp_x_law_word K [.ref r, .int i] H Q E :=
  ⟨r, i.toNat, by rw [Int.toNat_of_nonneg (by omega)], row, by omega, by omega, q⟩
theorem rd_stepsL (row : RowAt K H r) (h1 : 0 ≤ i) (h2 : i ≤ 30) (h3 : 20 ≤ j) (h4 : j ≤ 1000)
    (q : ∀ p ss H', Kp H H' → RowAt K H' r → TS' K H' p ss → okFrom 0 ss → (ss.length : Int) ≤ i → (sz ss : Int) ≤ j → (1 ≤ i → 1 ≤ sz ss) → Q (.ref p) H') : sp_x_law_steps K [.ref r, .int i, .int j] H Q E :=
  ⟨r, i.toNat, j.toNat, by rw [Int.toNat_of_nonneg (by omega), Int.toNat_of_nonneg (by omega)], row, by omega, by omega, by omega,
    fun p ms ss H' k w a b c d e f _ => q p ss H' k w ⟨ms, a, b⟩ c (by omega) (by omega) (fun z => f (by omega) (by omega))⟩
theorem rd_listS (h : TS' K H a ss) (q : ∀ p H', Same H H' → SX K H' p ss → Q (.ref p) H') : rListA K [.ref a] H Q := by
  obtain ⟨ms, q1, st⟩ := h
  exact rd_list_tup q1 fun l hl => q l _ (Same.new (Same.refl _) hl) ⟨ms, .inr upd_same, st.mono (Same.new (Same.refl _) hl)⟩
theorem rd_ofSteps (h : SX K H a ss) (ok : okFrom 0 ss) (few : ss.length ≤ 30) (q : ∀ p H', Same H H' → TX K CT CP H' p ss → Q (.ref p) H') : sp_Text_of_steps K CT CP [.ref CT, .ref a] H Q E := by
  obtain ⟨ms, q1, st⟩ := h
  exact ⟨a, ms, ss, rfl, q1.elim .inl (fun z => .inr (SqL.of z)), st, ok, few, fun H' x t S T e => q x H' S ⟨t, T, e⟩⟩
theorem rd_pSize (h : TX K CT CP H a ss) (q : Q (.int (sz ss : Nat)) H) : ∃ a' dx fs, V.ref a = .ref a' ∧ H a' = some (.ins CT dx fs) ∧ sp_Text_size K CT CP [.ref a'] H Q E := by
  obtain ⟨t, T, rfl⟩ := h
  exact rd_prop_at T.insA ⟨a, t, rfl, T, q⟩
theorem rd_pTyped (h : TX K CT CP H a ss) (q : Q (.str (mkS (tyL ss))) H) : ∃ a' dx fs, V.ref a = .ref a' ∧ H a' = some (.ins CT dx fs) ∧ sp_Text_typed_keys K CT CP [.ref a'] H Q E := by
  obtain ⟨t, T, rfl⟩ := h
  exact rd_prop_at T.insA ⟨a, t, rfl, T, q⟩
theorem rd_pSteps (h : TX K CT CP H a ss) (q : ∀ p, TS' K H p ss → Q (.ref p) H) : ∃ a' dx fs, V.ref a = .ref a' ∧ H a' = some (.ins CT dx fs) ∧ sp_Text_steps K CT CP [.ref a'] H Q E := by
  obtain ⟨t, T, rfl⟩ := h
  exact rd_prop_at T.insA ⟨a, t, rfl, T, q _ ⟨t.ms, T.made, T.stp⟩⟩
theorem rd_keyOf (h : TX K CT CP H a ss) (h0 : 0 ≤ i) (h1 : i < sz ss) (q : Q (.int (kat ss i.toNat : Nat)) H) : sp_Text_key_of K CT CP [.ref a, .int i] H Q E := by
  have ok := h.ok
  obtain ⟨t, T, rfl⟩ := h
  exact ⟨a, t, i.toNat, _, by rw [Int.toNat_of_nonneg h0], T, kat_some ok (by omega), q⟩
theorem rd_oCall (h : TX K CT CP H a ss) (h0 : 0 ≤ i) (h1 : i < sz ss) (q : Q (.int (kat ss i.toNat : Nat)) H) : InsA H a CT ∧ sp_Text_call K CT CP [.ref a, .int i] H Q E := ⟨h.insA, rd_keyOf h h0 h1 q⟩
theorem rd_oItem (h : TX K CT CP H a ss) (h0 : 0 ≤ i) (h1 : i < sz ss) (q : Q (.str ⟨#[lat ss (kat ss i.toNat)]⟩) H) : ∃ a', V.ref a = .ref a' ∧ InsA H a' CT ∧ sp_Text_getitem K CT CP [.ref a, .int i] H Q E := by
  have ok := h.ok
  have hi : i.toNat < sz ss := by omega
  have hk := kat_lt ok hi
  obtain ⟨t, T, rfl⟩ := h
  exact ⟨a, rfl, T.insA, a, t, i.toNat, _, _, by rw [Int.toNat_of_nonneg h0], T, kat_some ok hi, lat_some hk, q⟩
theorem join_ok (h : TX K CT CP H a ss) (g : TX K CT CP H' b tt) (hz : sz ss + sz tt ≤ 1000000000000000000) : okFrom 0 (joinS ss tt) := ok_join h.ok g.ok hz
theorem rd_opAdd (h : TX K CT CP H a ss) (g : TX K CT CP H b tt) (hz : sz ss + sz tt ≤ 1000000000000000000) (hl : ss.length + tt.length ≤ 30)
    (q : ∀ p H', Same H H' → TX K CT CP H' p (joinS ss tt) → Q (.ref p) H') : rOwn CT (sp_Text_add K CT CP) E (.ref a) (.ref b) H Q := by
  have j := join_ok h g hz
  have ia := h.insA
  have ib := g.insA
  obtain ⟨t, T, rfl⟩ := h
  obtain ⟨u, U, rfl⟩ := g
  exact rd_own ia ib ⟨a, b, t, u, rfl, T, U, j, by rw [join_length]; exact hl, fun H' x z S Z e => q x H' S ⟨z, Z, e⟩⟩
theorem rd_opMul (h : TX K CT CP H a ss) (h1 : 1 ≤ i) (h2 : i ≤ 1000000000) (hz : (sz ss : Int) * i ≤ 1000000000000000000) (hl : ss.length + 1 ≤ 30)
    (q : ∀ p H', Same H H' → TX K CT CP H' p (mulS ss i.toNat) → Q (.ref p) H') : rOwnI CT (sp_Text_mul K CT CP) E (.ref a) (.int i) H Q := by
  have ok := h.ok
  have ia := h.insA
  obtain ⟨n, rfl⟩ : ∃ n : Nat, i = n := ⟨i.toNat, by omega⟩
  rw [Int.toNat_natCast] at q
  obtain ⟨t, T, rfl⟩ := h
  refine rd_ownI ia ⟨a, t, n, rfl, T, by omega, by omega, ok_mul ok (by omega) (by omega) (by rw [← Int.natCast_mul] at hz; omega), Nat.le_trans (mul_length _ _) hl, fun H' x z S Z e => q x H' S ⟨z, Z, e⟩⟩
theorem rd_mRetyped {k c : Nat} (h : TX K CT CP H a ss) (hk : k < (tyL ss).length) (hc : 97 ≤ c ∧ c ≤ 122) (q : ∀ p H', Same H H' → TX K CT CP H' p (rt k c 0 ss) → Q (.ref p) H') : sp_Text_retyped K CT CP [.ref a, .int (k : Nat), .str ⟨#[c]⟩] H Q E := by
  obtain ⟨t, T, rfl⟩ := h
  exact ⟨a, t, k, c, rfl, T, hk, hc.1, hc.2, fun H' x z S Z e => q x H' S ⟨z, Z, e⟩⟩
theorem rd_opEq (h : TX K CT CP H a ss) (g : TX K CT CP H b tt) (q : Q (.bl (decide (ss = tt))) H) : rEqO K CT (sp_Text_eq K CT CP) E (.ref a) (.ref b) H Q := by
  have ia := h.insA
  have ib := g.insA
  obtain ⟨t, T, rfl⟩ := h
  obtain ⟨u, U, rfl⟩ := g
  exact rd_eqO ia ib ⟨a, b, t, rfl, T, .inl ⟨u, U, q⟩⟩
theorem rd_opEqT (h : TX K CT CP H a ss) (g : TS' K H b tt) (q : Q (.bl false) H) : rEqO K CT (sp_Text_eq K CT CP) E (.ref a) (.ref b) H Q := by
  have ia := h.insA
  obtain ⟨t, T, rfl⟩ := h
  obtain ⟨ms, g, _⟩ := g
  exact rd_eqOT ia g ⟨a, b, t, rfl, T, .inr ⟨ms, g, q⟩⟩
theorem rd_opNe (h : TX K CT CP H a ss) (g : TX K CT CP H b tt) (q : Q (.bl (!decide (ss = tt))) H) : rNeO CT (sp_Text_eq K CT CP) E (.ref a) (.ref b) H Q := by
  have ia := h.insA
  have ib := g.insA
  obtain ⟨t, T, rfl⟩ := h
  obtain ⟨u, U, rfl⟩ := g
  exact rd_neO ia ib ⟨a, b, t, rfl, T, .inl ⟨u, U, _, rfl, q⟩⟩
theorem rd_andrfl {α : Type} {x : α} {A : Prop} (h : A) : x = x ∧ A := ⟨rfl, h⟩
theorem rd_mTx {m : Str} {ta : TA} {sp : Sp} {σ : St} (h : TX K CT CP H a ss) (hm : m ≠ "total" ∧ m ≠ "parts" ∧ m ≠ "typed" ∧ m ≠ "made") (q : ta σ H fun vs H2 => sp (.ref a :: vs) H2 Q E) : ∃ a', V.ref a = .ref a' ∧ InsM H a' CT m ∧ ta σ H fun vs H2 => sp (V.ref a :: vs) H2 Q E := rd_m_at (h.insM hm) q
theorem rd_lenN {l : Addr} (h : H l = some (.lst (natV L))) (q : Q (.int (L.length : Nat)) H) : rLenA K [.ref l] H Q := rd_len_lst (SqL.of h) (by rw [natV_len]; exact q)
theorem rd_lenL {l : Addr} (h : H l = some (.lst xs)) (q : Q (.int (xs.length : Nat)) H) : rLenA K [.ref l] H Q := rd_len_lst (SqL.of h) q
theorem rd_lenS {y : List Nat} (hz : y.length ≤ 16777216) (q : Q (.int (y.length : Nat)) H) : rLenA K [.str (mkS y)] H Q := rd_len_str (by rw [mkS_len, sizeLine_eq]; exact hz) (by rw [mkS_len]; exact q)
theorem rd_ixN {l : Addr} (h : H l = some (.lst (natV L))) (h0 : 0 ≤ i) (h1 : i < L.length) (q : Q (.int (L[i.toNat]?.getD 0 : Nat)) H) : rIx K (.ref l) (.int i) H Q := by
  obtain ⟨n, rfl⟩ : ∃ n : Nat, i = n := ⟨i.toNat, by omega⟩
  rw [Int.toNat_natCast] at q
  refine rd_ixLn (SqL.of h) ?_ q
  unfold natV
  rw [List.getElem?_map, List.getElem?_eq_getElem (by omega)]
  rfl
theorem rd_ixC {y : List Nat} (hz : y.length ≤ 16777216) (h0 : 0 ≤ i) (h1 : i < y.length) (q : Q (.str ⟨#[y[i.toNat]?.getD 0]⟩) H) : rIx K (.str (mkS y)) (.int i) H Q := by
  obtain ⟨n, rfl⟩ : ∃ n : Nat, i = n := ⟨i.toNat, by omega⟩
  rw [Int.toNat_natCast] at q
  refine rd_ixSn (by rw [mkS_len, sizeLine_eq]; exact hz) ?_ q
  rw [tl_mkS, List.getElem?_eq_getElem (by omega)]
  rfl
theorem rd_eqTT (h : TS' K H a ss) (g : TS' K H b tt) (o1 : okFrom 0 ss) (o2 : okFrom 0 tt) (q : Q (.bl (decide (ss = tt))) H) : rEqA K (.ref a) (.ref b) H Q := by
  obtain ⟨ms, h1, st1⟩ := h
  obtain ⟨ns, h2, st2⟩ := g
  refine rd_eq_dat (.tup h1 st1.dp) (.tup h2 st2.dp) (steps_dok o1).shaped (steps_dok o2).shaped ?_
  simp only [PyData.eqv]
  rw [stDs_eq]
  exact q
theorem rd_neTT (h : TS' K H a ss) (g : TS' K H b tt) (o1 : okFrom 0 ss) (o2 : okFrom 0 tt) (q : Q (.bl (!decide (ss = tt))) H) : rNeA K (.ref a) (.ref b) H Q := by
  obtain ⟨ms, h1, st1⟩ := h
  obtain ⟨ns, h2, st2⟩ := g
  refine rd_ne_dat (.tup h1 st1.dp) (.tup h2 st2.dp) (steps_dok o1).shaped (steps_dok o2).shaped ?_
  simp only [PyData.eqv]
  rw [stDs_eq]
  exact q
theorem ts_nil {p : Addr} (e : H p = some (.tup [])) : TS' K H p [] := ⟨[], SqT.of e, StepsAt.nil⟩
def sgn (c : Nat) : Str := ⟨#[c]⟩
theorem joinL_one : ∀ l : List Nat, joinL [] (l.map fun c => [c]) = l
  | [] => rfl
  | [_] => rfl
  | x :: y :: r => by
    show [x] ++ ([] ++ joinL [] ((y :: r).map fun c => [c])) = x :: y :: r
    rw [joinL_one (y :: r)]; rfl
theorem join_signs (l : List Nat) : Txt.join "" (l.map sgn) = mkS l := by
  apply ext_tl
  rw [join_eq, tl_join, List.map_map, show tl ("" : Str) = [] from rfl, tl_mkS]
  exact joinL_one l
theorem sum_ones (l : List Nat) : ((l.map sgn).map (·.length)).sum = l.length := by
  induction l with
  | nil => rfl
  | cons x l ih =>
    simp only [List.map_cons, List.sum_cons, List.length_cons] at ih ⊢
    rw [ih, show (sgn x).length = 1 from rfl]; omega
def sgV (l : List Nat) : List V := l.map fun c => V.str ⟨#[c]⟩
theorem rd_joinS {l : Addr} (h : H l = some (.lst (sgV L))) (hz : L.length ≤ 16777216) (q : Q (.str (mkS L)) H) : rJoin K (.str "") [.ref l] H Q := by
  refine ⟨"", l, L.map sgn, rfl, rfl, .inl (SqL.of (by rw [h]; unfold sgV; rw [List.map_map]; rfl)), ?_, by rw [join_signs]; exact q⟩
  rw [sum_ones, show ("" : Str).length = 0 from rfl]; omega
theorem kp_natV {l : Addr} (h : H l = some (.lst (natV L))) (k : Kp H H') : H' l = some (.lst (natV L)) := k _ _ nr_natV h
theorem nr_sgV : ¬ isRow (.lst (sgV L)) := nr_vals fun v hv => by obtain ⟨i, _, rfl⟩ := List.mem_map.mp hv; rfl
theorem kp_sgV {l : Addr} (h : H l = some (.lst (sgV L))) (k : Kp H H') : H' l = some (.lst (sgV L)) := k _ _ nr_sgV h
theorem dp_natV {l : Addr} (h : H l = some (.lst (natV L))) : Dp K H (.ref l) (.list (L.map fun m => PyData.int (m : Nat))) := .lst (SqL.of h) dp_nats
theorem nat_eqv : ∀ a b : List Nat, PyData.eqvAll (a.map fun m => PyData.int (m : Nat)) (b.map fun m => PyData.int (m : Nat)) = decide (a = b)
  | [], [] => by simp [PyData.eqvAll]
  | [], _ :: _ => by simp [PyData.eqvAll]
  | _ :: _, [] => by simp [PyData.eqvAll]
  | x :: a, y :: b => by
    simp only [List.map_cons, PyData.eqvAll, nat_eqv a b, PyData.eqv]
    by_cases h : x = y <;> by_cases h2 : a = b <;> simp [h, h2]
    omega
theorem rd_neNN {l m : Addr} {M : List Nat} (h : H l = some (.lst (natV L))) (g : H m = some (.lst (natV M))) (q : Q (.bl (!decide (L = M))) H) : rNeA K (.ref l) (.ref m) H Q :=
  rd_ne_dat (dp_natV h) (dp_natV g) (nats_dok.shaped (by decide)) (nats_dok.shaped (by decide)) (by simp only [PyData.eqv]; rw [nat_eqv]; exact q)
theorem rd_eqNN {l m : Addr} {M : List Nat} (h : H l = some (.lst (natV L))) (g : H m = some (.lst (natV M))) (q : Q (.bl (decide (L = M))) H) : rEqA K (.ref l) (.ref m) H Q :=
  rd_eq_dat (dp_natV h) (dp_natV g) (nats_dok.shaped (by decide)) (nats_dok.shaped (by decide)) (by simp only [PyData.eqv]; rw [nat_eqv]; exact q)
theorem plain_nat {l : Addr} (h : H l = some (.lst (natV L))) : Plain (Itl K l) L.length (fun i => .int (L[i]?.getD 0 : Nat)) H where
  stop := fun H1 s => ⟨natV L, SqL.of (s _ _ h), by rw [natV_len]; exact Nat.le_refl _⟩
  go := fun i H1 s hi => ⟨natV L, .int (L[i]?.getD 0 : Nat), SqL.of (s _ _ h), by unfold natV; rw [List.getElem?_map, List.getElem?_eq_getElem hi]; rfl⟩
  yld := fun i H1 x H2 s hi y => ⟨y.1, by
    have e := y.2 _ (SqL.of (s _ _ h))
    unfold natV at e
    rw [List.getElem?_map, List.getElem?_eq_getElem hi] at e
    rw [List.getElem?_eq_getElem hi]
    exact (Option.some.inj e).symm⟩
/-- the letters of all places -/
def ls (ss : List Stp) : List Nat := (ks ss).map (lat ss)
/-- a new object o of n items -/
def rNew (n : Nat) (o : HO) (H1 : Hp) (Q : VK) : Prop := n ≤ sizeLine ∧ ∀ p, H1 p = none → Q (.ref p) (upd H1 p o)
theorem rd_tupN {t : TA} {σ : St} (h : t σ H fun xs H1 => rNew xs.length (.tup xs) H1 Q) : tTup t σ H Q := h
theorem rd_lstN {t : TA} {σ : St} (h : t σ H fun xs H1 => rNew xs.length (.lst xs) H1 Q) : tLst t σ H Q := h
theorem rd_new {n : Nat} (hz : n ≤ sizeLine) (q : ∀ p H', Same H H' → H' p = some o → H p = none → Q (.ref p) H') : rNew n o H Q := ⟨hz, fun p hp => q p _ (Same.new (Same.refl _) hp) upd_same hp⟩
theorem oEqOK {X : Cx} {CX : CXT} {k : Nat} {C : Addr} {sp : Sp} {E : XK} (hk : X.K = K) (G : XOk X.prog X.w X.K X.mg X.base CX k (EOwn X.K C) sp) (hr : Room k X.A) (hx : Passes CX X E) : OpR X (compareOp .Eq) (rEqO K C sp E) := by
  subst hk
  exact oEqO G hr hx
theorem rd_nameE {n : Nat} {σ σ' : St} {R : St → Hp → Prop} (e : σ.set n (some v) = σ') (h : R σ' H) : gName n v σ H R := by subst e; exact h
theorem rd_exStr {x : Str} {A : Prop} (h : A) : (∃ a, V.str x = .str a) ∧ A := ⟨⟨x, rfl⟩, h⟩
theorem rd_iNat {l : Addr} {A : Prop} (h : H l = some (.lst (natV L))) (q : A) : (∃ xs, SqL K H l xs) ∧ A := ⟨⟨_, SqL.of h⟩, q⟩
theorem rd_startE {N : List Str} {vs : List V} {σ' : St} {D : Ends} {t : TS} (e : start N vs = σ') (h : t D σ' H) : t D (start N vs) H := by subst e; exact h
end
end L2.Px
set_option Elab.async false
set_option linter.all false
set_option maxRecDepth 100000
set_option maxHeartbeats 1000000
namespace L2.Px
open PySem PySem.Spec PyProof.Rows StX ClX
theorem walk_ofX {l : PySem.W.OpenLaw} {n k : Nat} {q : Program} {loose : List Str} {XP : (Str → Option Value) → Heap → Prop} {YP : World → Heap → Prop} {d : DefRec} {K : Params → PySem.W.Frag} {x : Str}
    (hn : l.most = some n) (hn2 : n ≤ sizeLine) (hdf : d.params.defaults = []) (hr : Room k callerA) (hY : ∀ (w : World) (h : Heap), YP w h → (K w.params).In h)
    (F : ∀ (w : World) (mg : Str → Option Value) (fa : Addr) (h : Heap), (K w.params).In h → h.Ns mainGlobals mg → XP mg h → mg d.name = some (.ref fa) →
      ∃ fd : FuncData, (∀ (s : Shared) (u : Value), BindsTo s fd ⟨[u], []⟩ [(x, u)]) ∧
        ∀ base : Heap, (K w.params).In base → base.Ns mainGlobals mg → FnOk l.prog w (K w.params) mg base CX0 k fa fd [x] (sp_law (K w.params))) :
    PySem.W.WalkO q loose XP YP l.row.toRowW d [] (fun f vs => PySem.call f vs) := by
  refine Att.attach_call hn hdf fun w s0 s1 mg mb fa o pm cd doc a vs ns G Y ho hd hcd hmg hobj hints hlen hg => ?_
  have KX := hY w _ Y
  obtain ⟨fd, hb, hF⟩ := F w mg fa _ KX G.T.g G.X hmg
  exact law_call KX G.T.g G.T.b G.T.builtins G.T.nolimit hg hobj hints (Nat.le_trans hlen hn2) hr hF hb (fun H hO hS => ⟨a, ns, rfl, hS, fun _ => rfl⟩) fun H e s' z => z
section
variable {K : PySem.W.Frag} {h : Heap} {mg : Str → Option Value} {x m qual : Str} {st : Stmt} {ps : List Str} {C D f p g : Addr} {oc kV dc pm cd ct mc : Value} {od an : Option Addr} {sl : Array (Option Value)} {pv : Str} {rest : List Value}
/-- how a def binds n plain arguments -/
def BF (x qual : Str) (st : Stmt) (ps : List Str) : Prop := ∀ (kV doc pm : Value) (an : Option Addr) (cdv ct : Value) (us : List Value), us.length = ps.length → bindArgs (PySem.W.fnOf x qual (defArgs st) (defBody st) (defScope st) .none kV doc pm an cdv ct) ⟨us, []⟩ = pure (ps.zip us)
def BFS (x qual : Str) (st : Stmt) (ps : List Str) (pv : Str) : Prop := ∀ (kV doc pm : Value) (an : Option Addr) (cdv ct : Value) (us rest : List Value), us.length = ps.length → bindArgs (PySem.W.fnOf x qual (defArgs st) (defBody st) (defScope st) .none kV doc pm an cdv ct) ⟨us ++ rest, []⟩ = (newTuple rest >>= fun t => pure (ps.zip us ++ [(pv, t)]))
/-- the def object at f, as K has it -/
def AtF (K : PySem.W.Frag) (x qual : Str) (st : Stmt) (f : Addr) : Prop := ∃ oc od kV dc pm an cd ct sl, K.lookup f = some ⟨oc, od, .func (PySem.W.fnOf x qual (defArgs st) (defBody st) (defScope st) .none kV dc pm an cd ct), sl⟩ ∧ PySem.W.codeIn K cd qual = true
theorem atF (l : K.lookup f = some ⟨oc, od, .func (PySem.W.fnOf x qual (defArgs st) (defBody st) (defScope st) .none kV dc pm an cd ct), sl⟩) (c : PySem.W.codeIn K cd qual = true) : AtF K x qual st f := ⟨_, _, _, _, _, _, _, _, _, l, c⟩
theorem AtF.fun (a : AtF K x qual st f) (k : PySem.W.keepIn K (.ref f) = true) : ∃ fd, Fun K x qual st f fd := let ⟨_, _, _, _, _, _, _, _, _, l, c⟩ := a; ⟨_, fun_mk (st := st) l c k⟩
theorem defG_mk (X : K.In h) (G : h.Ns mainGlobals mg) (a : PySem.W.nsIn K mainGlobals x = some (some (.ref f))) (l : AtF K x x st f) (k : PySem.W.keepIn K (.ref f) = true) (b : BF x x st ps) : DefG K mg x st ps := by
  obtain ⟨fd, F⟩ := l.fun k
  exact ⟨f, fd, F, PySem.W.mg_of X G a, F.binds b⟩
theorem defM_mk (at_ : PySem.W.findIn K (.ref C) m = some (some (.ref f))) (fn : PySem.W.isFn K (.ref f) = true) (l : AtF K m qual st f) (k : PySem.W.keepIn K (.ref f) = true) (b : BF m qual st ps) : DefM K C m qual st ps := by
  obtain ⟨fd, F⟩ := l.fun k
  exact ⟨f, fd, F, ⟨at_, fn, k⟩, F.binds b⟩
theorem defX_mk {R : Addr → Prop} (r : R f) (l : AtF K m qual st f) (k : PySem.W.keepIn K (.ref f) = true) (b : BF m qual st ps) : DefX K R m qual st ps := by
  obtain ⟨fd, F⟩ := l.fun k
  exact ⟨f, fd, F, r, F.binds b⟩
theorem defP_mk (at_ : PySem.W.findIn K (.ref C) m = some (some (.ref p))) (get : PySem.W.specialIn K (.ref p) "__get__" = some (some (.builtin "property.__get__"))) (tak : PySem.W.takesIn K (.ref p) = some true) (rc : PySem.W.recIn K p "property" = some (.ref g :: rest))
    (l : AtF K m qual st g) (k : PySem.W.keepIn K (.ref g) = true) (b : BF m qual st ["self"]) : DefP K C m qual st := by
  obtain ⟨fd, F⟩ := l.fun k
  exact ⟨p, g, fd, F, ⟨at_, get, tak, rest, rc⟩, F.binds b⟩
theorem defC_mk (rd : PySem.W.readsIn K C mc = true) (ga : PySem.W.specialIn K (.ref C) "__getattribute__" = some (some (.builtin "type.__getattribute__"))) (at_ : PySem.W.findCls K (.ref C) mc m = some (.get (.builtin "classmethod.__get__") (.ref p) .none (.ref C)))
    (rc : PySem.W.recIn K p "classmethod" = some (.ref g :: rest)) (fi : PySem.W.fnIn K g = true) (l : AtF K m qual st g) (k : PySem.W.keepIn K (.ref g) = true) (b : BF m qual st ps) : DefC K C m qual st ps := by
  obtain ⟨fd, F⟩ := l.fun k
  exact ⟨mc, p, g, fd, F, ⟨rd, ga⟩, ⟨at_, ⟨rest, rc⟩, fi⟩, F.binds b⟩
theorem defK_mk (mk : PySem.W.makesIn K C = true) (at_ : PySem.W.findIn K (.ref C) "__init__" = some (some (.ref f))) (fn : PySem.W.isFn K (.ref f) = true) (kc : PySem.W.keepIn K (.ref C) = true) (l : AtF K "__init__" qual st f) (k : PySem.W.keepIn K (.ref f) = true) (b : BF "__init__" qual st ps) : DefK K C qual st ps := by
  obtain ⟨fd, F⟩ := l.fun k
  exact ⟨f, fd, F, ⟨mk, at_, fn, kc⟩, F.binds b⟩
theorem defKS_mk (mk : PySem.W.makesIn K C = true) (at_ : PySem.W.findIn K (.ref C) "__init__" = some (some (.ref f))) (fn : PySem.W.isFn K (.ref f) = true) (kc : PySem.W.keepIn K (.ref C) = true) (l : AtF K "__init__" qual st f) (k : PySem.W.keepIn K (.ref f) = true) (b : BFS "__init__" qual st ps pv) : DefKS K C qual st ps pv := by
  obtain ⟨oc, od, kV, dc, pm, an, cd, ct, sl, l, c⟩ := l
  exact ⟨f, _, fun_mk (st := st) l c k, ⟨mk, at_, fn, kc⟩, fun us rest hl => b kV dc pm an cd ct us rest hl⟩
theorem loose_int {p : Program} {lv : List (Str × PySem.W.WData)} {i : Int} (XL : PySem.W.XL p lv mg h) (hm : (x, PySem.W.WData.int i) ∈ lv) : ∃ t, mg x = some (.int i t) := by
  obtain ⟨v, e, r⟩ := XL.2.val _ hm
  cases r
  exact ⟨_, e⟩
theorem const_int {i : Int} {t : Tok} (X : K.In h) (G : h.Ns mainGlobals mg) (a : PySem.W.nsIn K mainGlobals x = some (some (.int i t))) : ∃ t, mg x = some (.int i t) := ⟨t, PySem.W.mg_of X G a⟩
theorem const_str {z : Str} {t : Tok} (X : K.In h) (G : h.Ns mainGlobals mg) (a : PySem.W.nsIn K mainGlobals x = some (some (.str z t))) : ∃ t, mg x = some (.str z t) := ⟨t, PySem.W.mg_of X G a⟩
theorem kit_self : PySem.W.kitOne K (.ref C) (.ref C) = some true := if_pos (by simp)
theorem kit_type {T : String} {b : Bool} (h1 : PySem.W.isClsIn K C = true) (h2 : PySem.W.typeIn K (.ref C) = some (.type "type")) (h3 : PySem.W.subIn K (.type T) (.ref C) = some b) : PySem.W.kitOne K (.type T) (.ref C) = some b := by
  unfold PySem.W.kitOne
  rw [if_neg (by simp)]
  rw [show PySem.W.kitCls K (.type T) (.ref C) = (if ((PySem.W.clsIn K C).isSome && PySem.W.typeIn K (.ref C) == some (.type "type")) = true then PySem.W.subIn K (.type T) (.ref C) else none) from rfl, if_pos (by rw [Bool.and_eq_true]; exact ⟨h1, by rw [h2]; simp⟩)]
  exact h3
end
end L2.Px
set_option Elab.async false
set_option linter.all false
set_option maxRecDepth 100000
set_option maxHeartbeats 2000000
namespace L2.Px
open PySem PySem.Spec PyProof.Rows StX LamX
structure Kl (T : List (Addr × Str)) (H H' : Hp) : Prop where
  keep : ∀ b o, ¬ isRow o → (∀ ps, o ≠ .tbl ps) → H b = some o → H' b = some o
  rows : ∀ (b sa : Addr) (i s e : Int), H b = some (.lst [.ref sa, .int i, .int s, .int e]) → ∃ i' s' e' : Int, H' b = some (.lst [.ref sa, .int i', .int s', .int e'])
  tabs : Tabs T H → Tabs T H'
section
variable {T : List (Addr × Str)} {H H' H1 : Hp}
theorem Kl.refl : Kl T H H := ⟨fun _ _ _ _ h => h, fun _ _ _ _ _ h => ⟨_, _, _, h⟩, id⟩
theorem Kl.trans (a : Kl T H H1) (b : Kl T H1 H') : Kl T H H' := ⟨fun c o hc hn h => b.keep c o hc hn (a.keep c o hc hn h), fun c sa i s e h => let ⟨i', s', e', h'⟩ := a.rows c sa i s e h; b.rows c sa i' s' e' h', fun t => b.tabs (a.tabs t)⟩
theorem tabS_kp {P : Addr} {q : Str} (t : TabS H P q) (e : Kp H H') : TabS H' P q :=
  let ⟨ps, a, b, d⟩ := t
  ⟨ps, e _ _ id a, b, fun pos cv hc => let ⟨c, x, y⟩ := d pos cv hc; ⟨c, x, e _ _ id y⟩⟩
theorem Kl.kp (e : Kp H H') : Kl T H H' := ⟨fun b o hr _ h => e b o hr h, e.rows, fun t p hp => tabS_kp (t p hp) e⟩
theorem Kl.same (e : Same H H') : Kl T H H' := .kp (.same e)
theorem Kl.ext (e : ExtN H H') (t : Tabs T H') : Kl T H H' := ⟨fun b o _ hn h => e b o h hn, fun b sa i s n h => ⟨_, _, _, e _ _ h fun ps z => nomatch z⟩, fun _ => t⟩
theorem Kl.tup {K : PySem.W.Frag} {a : Addr} {xs : List V} (e : Kl T H H') (h : SqT K H a xs) : SqT K H' a xs := by
  rcases h with (h | ⟨o, h⟩) | h
  · exact .inl (.inl (e.keep _ _ nr_tup (fun ps z => nomatch z) h))
  · exact .inl (.inr ⟨o, e.keep _ _ nr_frz (fun ps z => nomatch z) h⟩)
  · exact .inr h
theorem Kl.lst {K : PySem.W.Frag} {a : Addr} {xs : List V} (e : Kl T H H') (n : ¬ isRow (.lst xs)) (h : SqL K H a xs) : SqL K H' a xs := by
  rcases h with (h | ⟨o, h⟩) | h
  · exact .inl (.inl (e.keep _ _ n (fun ps z => nomatch z) h))
  · exact .inl (.inr ⟨o, e.keep _ _ nr_frz (fun ps z => nomatch z) h⟩)
  · exact .inr h
end
/-- all but tables of code -/
structure Kx (T : List (Addr × Str)) (H H' : Hp) : Prop where
  keep : ∀ b o, (∀ ps, o ≠ .tbl ps) → H b = some o → H' b = some o
  tabs : Tabs T H → Tabs T H'
section
variable {T : List (Addr × Str)} {H H' H1 : Hp}
theorem Kx.refl : Kx T H H := ⟨fun _ _ _ h => h, id⟩
theorem Kx.trans (a : Kx T H H1) (b : Kx T H1 H') : Kx T H H' := ⟨fun c o hn h => b.keep c o hn (a.keep c o hn h), fun t => b.tabs (a.tabs t)⟩
theorem Kx.kl (e : Kx T H H') : Kl T H H' := by
  refine ⟨fun b o hr hn h => e.keep b o hn h, fun b sa i s n h => ?_, e.tabs⟩
  exact ⟨i, s, n, e.keep _ _ (fun ps z => nomatch z) h⟩
theorem Kx.same (e : Same H H') : Kx T H H' := ⟨fun b o _ h => e b o h, (Kl.same e).tabs⟩
theorem Kx.ext (e : ExtN H H') (t : Tabs T H') : Kx T H H' := ⟨fun b o hn h => e b o h hn, fun _ => t⟩
theorem Kx.tup {K : PySem.W.Frag} {a : Addr} {xs : List V} (e : Kx T H H') (h : SqT K H a xs) : SqT K H' a xs := e.kl.tup h
theorem Kx.lst {K : PySem.W.Frag} {a : Addr} {xs : List V} (e : Kx T H H') (h : SqL K H a xs) : SqL K H' a xs := by
  rcases h with (h | ⟨o, h⟩) | h
  · exact .inl (.inl (e.keep _ _ (fun ps z => nomatch z) h))
  · exact .inl (.inr ⟨o, e.keep _ _ (fun ps z => nomatch z) h⟩)
  · exact .inr h
theorem Kx.row {K : PySem.W.Frag} {r : Addr} (e : Kx T H H') (h : RowAt K H r) : RowAt K H' r := let ⟨sa, sc, i, s, n, a, b⟩ := h.ex; ⟨sa, sc, i, s, n, e.keep _ _ (fun ps z => nomatch z) a, e.lst b⟩
end
structure FunC (K : PySem.W.Frag) (x qual : Str) (st : Stmt) (c f : Addr) (fd : FuncData) : Prop where
  ex : ∃ (oc : Value) (od : Option Addr) (kV doc pm : Value) (an : Option Addr) (ct : Value) (osl : Array (Option Value)),
    fd = PySem.W.fnOf x qual (defArgs st) (defBody st) (defScope st) .none kV doc pm an (.ref c) ct ∧ K.lookup f = some ⟨oc, od, .func fd, osl⟩ ∧ PySem.W.codeIn K (.ref c) qual = true
  kp : PySem.W.keepIn K (.ref f) = true
theorem FunC.fn {K : PySem.W.Frag} {x qual : Str} {st : Stmt} {c f : Addr} {fd : FuncData} (F : FunC K x qual st c f fd) : Fun K x qual st f fd :=
  let ⟨oc, od, kV, doc, pm, an, ct, osl, e, l, h⟩ := F.ex
  ⟨⟨oc, od, kV, doc, pm, an, _, ct, osl, e, l, h⟩, F.kp⟩
section
variable {P : Program} {w : World} {K : PySem.W.Frag} {mg : Str → Option Value} {base : Heap}
theorem FunC.ok {x qual : Str} {st : Stmt} {c f : Addr} {fd : FuncData} {N ps : List Str} {k : Nat} {sp : Sp} (F : FunC K x qual st c f fd) (S : FnScope N ps (defScope st)) (len : ∀ vs H Q E, sp vs H Q E → vs.length = ps.length)
    (hbody : ∀ (A : Around) (outer : List Env) (s : Shared) (H : Hp) (vs : List V) (Q : VK) (E : XK), Room k (A.deeper (envOfC qual (defScope st) s.heap.objs.size f (.ref c))) → sp vs H Q E →
      ∃ t, PSs (cxOf CX0 P w K mg base N qual (defScope st) f (.ref c) A outer s H E).nox (defBody st) t ∧ t { nx := fun _ H' => Q .non H', rt := Q } (start N vs) H) : FnOk P w K mg base CX0 (k + 1) f fd ps sp := by
  obtain ⟨oc, od, kV, doc, pm, an, ct, osl, rfl, lk, hcd⟩ := F.ex
  refine fn_of lk hcd S len fun A outer s H vs Q E hr hsp => ?_
  obtain ⟨t, h, q⟩ := hbody A outer s H vs Q E hr hsp
  exact ⟨t, h.nox, q⟩
end
/-- a def of the top, its code object at c -/
def DefGC (K : PySem.W.Frag) (mg : Str → Option Value) (x : Str) (st : Stmt) (ps : List Str) (c : Addr) : Prop := ∃ f fd, FunC K x x st c f fd ∧ mg x = some (.ref f) ∧ Binds K fd ps []
section
variable {P : Program} {w : World} {K : PySem.W.Frag} {mg : Str → Option Value} {base : Heap} {k : Nat} {ps : List Str} {sp : Sp} {x : Str} {st : Stmt} {c : Addr}
theorem DefGC.ok {N : List Str} (D : DefGC K mg x st ps c) (S : FnScope N ps (defScope st)) (len : ∀ vs H Q E, sp vs H Q E → vs.length = ps.length)
    (hbody : ∀ (f : Addr) (A : Around) (outer : List Env) (s : Shared) (H : Hp) (vs : List V) (Q : VK) (E : XK), Room k (A.deeper (envOfC x (defScope st) s.heap.objs.size f (.ref c))) → sp vs H Q E →
      ∃ t, PSs (cxOf CX0 P w K mg base N x (defScope st) f (.ref c) A outer s H E).nox (defBody st) t ∧ t { nx := fun _ H' => Q .non H', rt := Q } (start N vs) H) : GOk P w K mg base CX0 (k + 1) x sp := by
  obtain ⟨f, fd, F, a, b⟩ := D
  exact ⟨f, FnOk.toR (F.ok S len fun A outer s H vs Q E hr h => hbody f A outer s H vs Q E hr h) b, a, F.kp⟩
theorem DefGC.g (D : DefGC K mg x st ps c) : DefG K mg x st ps := let ⟨f, fd, F, a, b⟩ := D; ⟨f, fd, F.fn, a, b⟩
end
def lamOb (q : Str) (params : Arguments) (body : Expr) (scope : Scope) (cl : List (Str × Addr)) (dV : Value) (f c' : Addr) : HO :=
  .ext fun h => ∃ doc pm ctv : Value, h.get? f = some (PySem.W.kdv_obj "<lambda>" q params (.expr body) scope cl dV doc pm c' ctv)
/-- its names: captured ones, globals, and parameters bs that the maker does not know -/
structure LamC (N : List Str) (sc scope : Scope) (bs : List Str) : Prop where
  kind : scope.kind = .function
  co : scope.isCoroutine = false
  gen : scope.isGenerator = false
  own : ∀ y ∈ scope.names, y.2 ≠ .cell ∧ (y.2 = .local → y.1 ∉ N)
  free : ∀ y ∈ scope.names, y.2 = .free → sc.names.lookup y.1 = some .cell ∨ sc.names.lookup y.1 = some .free
  par : ∀ y ∈ bs, scope.names.lookup y = some .local
/-- how it binds nothing: no parameter, or one with a default -/
def LamB (params : Arguments) (body : Expr) (scope : Scope) (dV : Value) (bs : List Str) (H : Hp) : Prop :=
  (dV = .none ∧ bs = [] ∧ ∀ (q : Str) (cl : List (Str × Addr)) (doc pm cv ctv : Value), bindArgs (PySem.W.kdv_fn "<lambda>" q params (.expr body) scope cl .none doc pm cv ctv) ⟨[], []⟩ = pure []) ∨
    ∃ (T : Addr) (v : V) (b : Str), dV = .ref T ∧ bs = [b] ∧ H T = some (.tup [v]) ∧ ∀ (q : Str) (cl : List (Str × Addr)) (doc pm cv ctv u : Value), ∃ kk, bindArgs (PySem.W.kdv_fn "<lambda>" q params (.expr body) scope cl (.ref T) doc pm cv ctv) ⟨[], []⟩ = seqItems? (.ref T) >>= kk ∧ kk (some #[u]) = pure [(b, u)]
/-- at f stands a lambda of X's def whose body reads as t -/
def IsLam (X : Cx) (k : Nat) (t : XK → TE) (f : Addr) (H : Hp) : Prop := ∃ (params : Arguments) (body : Expr) (scope : Scope) (dV : Value) (bs : List Str) (c' : Addr),
  LamC X.N X.env.scope scope bs ∧ H f = some (lamOb (X.env.qual ++ "<lambda>") params body scope (cloFrom X.env.cells scope.names []) dV f c') ∧ H c' = some (CodeO c' (X.env.qual ++ "<lambda>")) ∧ LamB params body scope dV bs H ∧
  ∀ (A : Around) (outer : List Env) (s : Shared) (H1 : Hp) (E : XK), Room k (A.deeper (lamEnv X scope s.heap.objs.size f c')) → PE (lamCx X A outer s H1 E scope f c') body (t E)
theorem IsLam.mono {X : Cx} {k : Nat} {t : XK → TE} {f : Addr} {H H' : Hp} (h : IsLam X k t f H) (e : ∀ b o, ¬ isRow o → (∀ ps, o ≠ .tbl ps) → H b = some o → H' b = some o) : IsLam X k t f H' := by
  obtain ⟨p, b, sc, dV, bs, c', l, h1, h2, h3, h4⟩ := h
  refine ⟨p, b, sc, dV, bs, c', l, e _ _ id (fun ps z => nomatch z) h1, e _ _ id (fun ps z => nomatch z) h2, ?_, h4⟩
  rcases h3 with h3 | ⟨T, v, y, a1, a2, a3, a4⟩
  · exact .inl h3
  · exact .inr ⟨T, v, y, a1, a2, e _ _ nr_tup (fun ps z => nomatch z) a3, a4⟩
theorem IsLam.kl {X : Cx} {k : Nat} {t : XK → TE} {f : Addr} {H H' : Hp} {T : List (Addr × Str)} (h : IsLam X k t f H) (e : Kl T H H') : IsLam X k t f H' := h.mono e.keep
end L2.Px
set_option Elab.async false
set_option linter.all false
set_option maxRecDepth 100000
set_option maxHeartbeats 2000000
namespace L2.Px
open PySem PySem.Spec PyProof.Rows StX LamX
section
variable {X : Cx} {pins0 : List (Addr × Obj)} {σ0 : St} {H0 H HZ : Hp} {s0 s s1 : Shared}
/-- how the lambda at f binds its nothing -/
theorem LamB.binds {params : Arguments} {body : Expr} {scope : Scope} {dV : Value} {bs : List Str} {q : Str} {cl : List (Str × Addr)} {doc pm cv ctv : Value} (hb : LamB params body scope dV bs H) (ht : ∀ T xs, H T = some (.tup xs) → ∃ its, Vals xs its ∧ s.heap.IsTuple T its.toArray) :
    ∃ bn : List (Str × Value), (∀ y ∈ bn, y.1 ∈ bs) ∧ BindsTo s (PySem.W.kdv_fn "<lambda>" q params (.expr body) scope cl dV doc pm cv ctv) ⟨[], []⟩ bn := by
  rcases hb with ⟨rfl, rfl, h⟩ | ⟨T, v, b, rfl, rfl, hT, h⟩
  · exact ⟨[], fun y hy => absurd hy (by simp), .of_eq (h _ _ _ _ _ _)⟩
  · obtain ⟨its, rv, o, ho, hc, n, hd⟩ := ht T _ hT
    obtain ⟨u, rfl, ru⟩ := rv.one
    obtain ⟨kk, h1, h2⟩ := h q cl doc pm cv ctv u
    exact ⟨[(b, u)], fun y hy => by rw [List.mem_singleton.mp hy]; exact List.mem_singleton.mpr rfl, .of_defaults rfl ho hd h1 h2⟩
end
end L2.Px
set_option Elab.async false
set_option linter.all false
set_option maxRecDepth 100000
set_option maxHeartbeats 2000000
namespace L2.Px
open PySem PySem.Spec PyProof.Rows StX LamX
end L2.Px
set_option Elab.async false
set_option linter.all false
set_option maxRecDepth 100000
set_option maxHeartbeats 2000000
namespace L2.Px
open PySem PySem.Spec PyProof.Rows StX ClX
section
variable {P : Program} {w : World} {K : PySem.W.Frag} {mg : Str → Option Value} {base : Heap} {CX : CXT} {k : Nat} {C : Addr} {ps : List Str} {sp sp' : Sp} {x m qual : Str} {st : Stmt} {f : Addr} {R : Addr → Prop}
theorem fnR_up (F : FnR P w K mg base CX0 k f sp) : FnR P w K mg base CX k f sp := fun A outer s H us vs Q E hr e0 r h =>
  codeAny_mono (F A outer s H us vs Q E hr e0 r h) fun r s' hq => match r, hq with
    | .error e, hq => hq.elim
    | .ok (.ret u), hq => hq
    | .ok .next, hq => hq
    | .ok .brk, hq => hq
    | .ok .cont, hq => hq
theorem fnR_or (F : FnR P w K mg base CX k f sp) (G : FnR P w K mg base CX k f sp') : FnR P w K mg base CX k f (fun vs H Q E => sp vs H Q E ∨ sp' vs H Q E) := fun A outer s H us vs Q E hr e0 r h =>
  h.elim (F A outer s H us vs Q E hr e0 r) (G A outer s H us vs Q E hr e0 r)
/-- a def that answers or raises -/
theorem GOk.or {i j : Nat} (F : GOk P w K mg base CX0 i x sp) (G : GOk P w K mg base CX j x sp') (hi : i ≤ k) (hj : j ≤ k) : GOk P w K mg base CX k x (fun vs H Q E => sp vs H Q E ∨ sp' vs H Q E) := by
  obtain ⟨f, a1, a2, a3⟩ := F.mono hi
  obtain ⟨g, b1, b2, b3⟩ := G.mono hj
  cases a2.symm.trans b2
  exact ⟨f, fnR_or (fnR_up a1) b1, a2, a3⟩
theorem MOk.or {i j : Nat} (F : MOk P w K mg base CX0 i C m sp) (G : MOk P w K mg base CX j C m sp') (hi : i ≤ k) (hj : j ≤ k) : MOk P w K mg base CX k C m (fun vs H Q E => sp vs H Q E ∨ sp' vs H Q E) := by
  obtain ⟨f, a1, a2⟩ := F.mono hi
  obtain ⟨g, b1, b2⟩ := G.mono hj
  have e := a2.at_.symm.trans b2.at_
  simp only [Option.some.injEq, Value.ref.injEq] at e
  subst e
  exact ⟨f, fnR_or (fnR_up a1) b1, a2⟩
end
/-- its __init__, as it stands; what it promises -/
def DefI (K : PySem.W.Frag) (C : Addr) (qual : Str) (st : Stmt) (ps : List Str) : Prop := ∃ f fd, Fun K "__init__" qual st f fd ∧ PySem.W.findIn K (.ref C) "__init__" = some (some (.ref f)) ∧ PySem.W.typeIn K (.ref f) = some (.type "function") ∧ Binds K fd ps []
def IOk (P : Program) (w : World) (K : PySem.W.Frag) (mg : Str → Option Value) (base : Heap) (k : Nat) (C : Addr) (ps : List Str) (sp : Sp) : Prop := ∃ f fd, FnOk P w K mg base CX0 k f fd ps sp ∧ PySem.W.findIn K (.ref C) "__init__" = some (some (.ref f)) ∧ PySem.W.typeIn K (.ref f) = some (.type "function") ∧ Binds K fd ps []
theorem DefI.ok {P : Program} {w : World} {K : PySem.W.Frag} {mg : Str → Option Value} {base : Heap} {k : Nat} {C : Addr} {qual : Str} {st : Stmt} {ps N : List Str} {sp : Sp} (D : DefI K C qual st ps) (S : FnScope N ps (defScope st)) (len : ∀ vs H Q E, sp vs H Q E → vs.length = ps.length)
    (hbody : ∀ (f : Addr) (cdv : Value) (A : Around) (outer : List Env) (s : Shared) (H : Hp) (vs : List V) (Q : VK) (E : XK), Room k (A.deeper (envOfC qual (defScope st) s.heap.objs.size f cdv)) → sp vs H Q E →
      ∃ t, PSs (cxOf CX0 P w K mg base N qual (defScope st) f cdv A outer s H E).nox (defBody st) t ∧ t { nx := fun _ H' => Q .non H', rt := Q } (start N vs) H) : IOk P w K mg base (k + 1) C ps sp := by
  obtain ⟨f, fd, F, i, t, b⟩ := D
  exact ⟨f, fd, F.ok S len fun cdv A outer s H vs Q E hr h => hbody f cdv A outer s H vs Q E hr h, i, t, b⟩
end L2.Px
set_option Elab.async false
set_option linter.all false
set_option maxRecDepth 100000
set_option maxHeartbeats 2000000
namespace L2.Px
open PySem PySem.Spec PyProof.Rows StX ClX LamX
/-- e is of the i-th kind of Cs -/
structure RzC (K : PySem.W.Frag) (CT : Addr) (Cs : List Addr) (i : Nat) (D : Addr) : Prop where
  isi : ExcC K D
  exm : PySem.W.exmOne K (.ref D) (.ref CT) = some true
  ve : PySem.W.kitOne K (.ref D) (.type "ValueError") = some true
  kit : ∀ (j : Nat) C, Cs[j]? = some C → PySem.W.kitOne K (.ref D) (.ref C) = some (decide (j = i))
/-- .. and tells a number in its field f -/
structure RzF (K : PySem.W.Frag) (D : Addr) (f : Str) : Prop where
  xf : XfC K D
  no : PySem.W.findIn K (.ref D) f = some none
def rzW : List Str := ["step", "changes", "long", "place", "key", "letter", "number"]
/-- what _law_raised answers of the exception of the class cls, its dict d -/
def RzAns (K : PySem.W.Frag) (CT : Addr) (Cs : List Addr) (cls : Value) (d : Option Addr) (H : Hp) (Q : VK) : Prop := ∃ (i : Nat) (D : Addr) (w : Str), cls = .ref D ∧ RzC K CT Cs i D ∧ rzW[i]? = some w ∧
  ((i < 2 ∧ RzF K D "index" ∧ ∃ (dd : Addr) (n : Int) (fs : List (Str × V)), d = some dd ∧ H dd = some (.xd fs) ∧ fs.lookup ("index" : Str) = some (.int n) ∧ ∀ p H', Same H H' → H' p = some (.tup [.str w, .int n]) → Q (.ref p) H') ∨
    (¬ i < 2 ∧ d = none ∧ ∀ p H', Same H H' → H' p = some (.tup [.str w]) → Q (.ref p) H'))
theorem RzAns.dict {K : PySem.W.Frag} {CT : Addr} {Cs : List Addr} {cls : Value} {d : Option Addr} {H : Hp} {Q : VK} (h : RzAns K CT Cs cls d H Q) : d = none ∨ ∃ dd fs, d = some dd ∧ H dd = some (.xd fs) := by
  obtain ⟨i, D, w, _, _, _, ⟨_, _, dd, n, fs, e, hx, _⟩ | ⟨_, e, _⟩⟩ := h
  · exact .inr ⟨dd, fs, e, hx⟩
  · exact .inl e
end L2.Px
set_option Elab.async false
set_option linter.all false
set_option maxRecDepth 100000
set_option maxHeartbeats 1000000
namespace L2.Px
open PySem PySem.Spec PyProof.Rows StX ClX LamX
end L2.Px
set_option Elab.async false
set_option linter.all false
set_option maxRecDepth 100000
set_option maxHeartbeats 1000000
namespace L2.Px
open PySem PySem.Spec PyProof.Rows StX TL
/-- how often k stands ahead of place p -/
def cn (ss : List Stp) (p k : Nat) : Nat := ((ks ss).take p).count k
/-- .. of all keys -/
def cnt (ss : List Stp) (p : Nat) : List Nat := (List.range (tyL ss).length).map (cn ss p)
theorem count_take_split (l : List Nat) (k : Nat) {a b : Nat} (h : a ≤ b) : (l.take b).count k = (l.take a).count k + ((l.drop a).take (b - a)).count k := by
  have e : l.take b = l.take a ++ (l.drop a).take (b - a) := by
    have := List.take_add (l := l) (i := a) (j := b - a)
    rw [show a + (b - a) = b by omega] at this
    exact this
  rw [e, List.count_append]
theorem cn_mono (ss : List Stp) (k : Nat) {a b : Nat} (h : a ≤ b) : cn ss a k ≤ cn ss b k := by
  unfold cn; rw [count_take_split _ _ h]; omega
theorem cn_succ {ss : List Stp} (ok : okFrom 0 ss) {p : Nat} (h : p < sz ss) (k : Nat) : cn ss (p + 1) k = cn ss p k + if kat ss p = k then 1 else 0 := by
  unfold cn
  rw [List.take_add_one, kat_some ok h, List.count_append]
  simp [List.count_cons, beq_iff_eq]
end L2.Px
set_option Elab.async false
set_option linter.all false
set_option maxRecDepth 100000
set_option maxHeartbeats 1000000
namespace L2.Px
open PySem PySem.Spec PyProof.Rows StX TL
/-- a walk of n turns whose i-th item is a new tuple of it i -/
structure Pairy (J : It) (n : Nat) (it : Nat → List V) (H1 : Hp) : Prop where
  stop : ∀ H, Same H1 H → J.stop n H
  go : ∀ i H, Same H1 H → i < n → J.go i H
  yld : ∀ i H x H', Same H1 H → i < n → J.yld i H x H' → ∃ T, H T = none ∧ H' = upd H T (.tup (it i)) ∧ x = .ref T
/-- for a, b in .. -/
theorem for_pair {J : It} {n : Nat} {it : Nat → List V} {g : TG} {tb : TS} {D : Ends} {σ : St} {H : Hp} (Pv : Nat → St → Hp → Prop) (h0 : Pv 0 σ H) (hl : ∀ i σ H, i ≤ n → Pv i σ H → Pairy J n it H)
    (hs : ∀ i T σ H, i < n → Pv i σ H → H T = none → g (.ref T) σ (upd H T (.tup (it i))) fun σ2 H2 => tb { D with nx := Pv (i + 1), ct := Pv (i + 1), bk := D.nx } σ2 H2) (hd : ∀ σ H, Pv n σ H → D.nx σ H) : ForW J g tb D σ H := by
  refine ⟨fun i m σ H => m = n - i ∧ i ≤ n ∧ Pv i σ H, ⟨n, by simp, Nat.zero_le _, h0⟩, ?_⟩
  rintro i m σ H ⟨rfl, hi, p⟩
  have q := hl i σ H hi p
  by_cases hlt : i < n
  · refine .inr ⟨q.go i H (Same.refl _) hlt, Pv (i + 1), fun σ' H' p' => ⟨n - (i + 1), by omega, rfl, hlt, p'⟩, fun x H' y => ?_⟩
    obtain ⟨T, hT, e1, e2⟩ := q.yld i H x H' (Same.refl _) hlt y
    subst e1 e2
    exact hs i T σ H hlt p hT
  · have e : i = n := by omega
    subst e
    exact .inl ⟨q.stop H (Same.refl _), hd σ H p⟩
end L2.Px
set_option Elab.async false
set_option linter.all false
set_option maxRecDepth 100000
set_option maxHeartbeats 1000000
namespace L2.Px
open PySem PySem.Spec PyProof.Rows StX TL
theorem nodup_len {α : Type} [DecidableEq α] : ∀ {l m : List α}, l.Nodup → (∀ x ∈ l, x ∈ m) → l.length ≤ m.length
  | [], m, _, _ => Nat.zero_le _
  | x :: l, m, h, hs => by
    obtain ⟨h1, h2⟩ := List.nodup_cons.mp h
    have hx := hs x List.mem_cons_self
    have := nodup_len (l := l) (m := m.erase x) h2 fun y hy => by
      have hne : y ≠ x := fun z => h1 (z ▸ hy)
      exact (List.mem_erase_of_ne hne).mpr (hs y (List.mem_cons_of_mem _ hy))
    rw [List.length_erase_of_mem hx] at this
    have := List.length_pos_of_mem hx
    simp only [List.length_cons]
    omega
theorem flat_len {α β : Type} (f : α → List β) (b : Nat) : ∀ l : List α, (∀ x ∈ l, (f x).length ≤ b) → (l.flatMap f).length ≤ b * l.length
  | [], _ => by simp
  | x :: l, h => by
    rw [List.flatMap_cons, List.length_append, List.length_cons, Nat.mul_succ]
    have := h x List.mem_cons_self
    have := flat_len f b l fun y hy => h y (List.mem_cons_of_mem _ hy)
    omega
def cs1 (ss : List Stp) (j : Nat) : List Nat := match ss[j]? with
  | some (.pa f l _) => [sz (ss.take j), f, l + 1]
  | _ => [sz (ss.take j)]
def consts (ss : List Stp) : List Nat := 0 :: (List.range ss.length).flatMap (cs1 ss)
theorem consts_len (ss : List Stp) : (consts ss).length ≤ 3 * ss.length + 1 := by
  have := flat_len (cs1 ss) 3 (List.range ss.length) fun j _ => by unfold cs1; split <;> simp
  rw [List.length_range] at this
  simp only [consts, List.length_cons]; omega
def phi (ss : List Stp) (x : Nat) : Nat := match (List.range ss.length).find? (fun j => decide (sz (ss.take j) < x ∧ x ≤ sz (ss.take (j + 1)))) with
  | some j => (match ss[j]? with
    | some (.pa f l _) => f + (x - sz (ss.take j)) % (l - f + 1)
    | _ => 0)
  | none => 0
def itn (ss : List Stp) : Nat → Nat → Nat
  | 0, x => x
  | i + 1, x => phi ss (itn ss i x)
def reachL (ss : List Stp) (qs : List Nat) : List Nat := (consts ss ++ qs).flatMap fun c => (List.range 32).map fun i => itn ss i c
theorem reachL_len (ss : List Stp) (qs : List Nat) : (reachL ss qs).length ≤ 32 * (3 * ss.length + 1 + qs.length) := by
  have := flat_len (fun c => (List.range 32).map fun i => itn ss i c) 32 (consts ss ++ qs) fun c _ => by simp
  have h := consts_len ss
  rw [List.length_append] at this
  unfold reachL
  omega
def counterF (a d : Addr) : List (Str × V) := putF "known" (.ref d) (putF "text" (.ref a) [])
theorem counterF_no {a d : Addr} {x : Str} (h : x ≠ "known" ∧ x ≠ "text") : (counterF a d).lookup x = none := by
  unfold counterF; rw [lookup_putF, if_neg h.1, lookup_putF, if_neg h.2]; rfl
/-- what is remembered: for places, the counts ahead of them -/
structure Known (H : Hp) (d : Addr) (ss : List Stp) (qs : List Nat) (av : Addr → Prop) : Prop where
  ex : ∃ kvs : List (Key × V), H d = some (.dK kvs) ∧ (kvs.map (·.1)).Nodup ∧ (∃ v, valV kvs (Sum.inl 0 : Key) = some v) ∧
    ∀ kv ∈ kvs, ∃ (x : Nat) (l : Addr), kv = (Sum.inl (x : Int), V.ref l) ∧ x ∈ reachL ss qs ∧ H l = some (.lst (natV (cnt ss x))) ∧ ¬ av l
structure CtAt (K : PySem.W.Frag) (CT CP CC : Addr) (H : Hp) (c a d : Addr) (ss : List Stp) (qs : List Nat) (av : Addr → Prop) : Prop where
  ins : ∃ dx, H c = some (.ins CC dx (counterF a d))
  tx : TX K CT CP H a ss
  kn : Known H d ss qs av
  few : qs.length ≤ 10000
section
variable {K : PySem.W.Frag} {CT CP CC : Addr} {H H' : Hp} {Q : VK} {E : XK} {c a d l : Addr} {ss : List Stp} {qs : List Nat} {q x : Nat} {kvs : List (Key × V)} {av : Addr → Prop}
/-- all but the dict d -/
theorem but_txt {t : TxI} (e : But d H H') (hd : H d = some (.dK kvs)) (h : TextAt K CT CP H a t) : TextAt K CT CP H' a t := by
  have ne : ∀ {b o}, (∀ k, o ≠ HO.dK k) → H b = some o → H' b = some o := fun {b o} ho hb => e b o (fun z => by subst z; rw [hd] at hb; cases hb; exact ho _ rfl) hb
  have f : Free1 H d := ⟨fun xs z => (by rw [hd] at z; cases z), fun o u z => (by rw [hd] at z; cases z)⟩
  exact ⟨ne (fun k z => by cases z) h.ins, e.tup f h.made, e.steps f h.stp, ne (fun k z => by cases z) h.pls, PartsAt.but e (fun dx fs z => by rw [hd] at z; cases z) h.prt, h.ok, h.few⟩
theorem TX.but (h : TX K CT CP H a ss) (e : But d H H') (hd : H d = some (.dK kvs)) : TX K CT CP H' a ss := let ⟨t, T, q⟩ := h; ⟨t, but_txt e hd T, q⟩
theorem but_lst {xs : List V} (e : But d H H') (hd : H d = some (.dK kvs)) (h : H l = some (.lst xs)) : H' l = some (.lst xs) := e _ _ (fun z => by subst z; rw [hd] at h; cases h) h
theorem CtAt.mono (h : CtAt K CT CP CC H c a d ss qs av) (e : Same H H') : CtAt K CT CP CC H' c a d ss qs av := by
  obtain ⟨⟨dx, h1⟩, h2, ⟨kvs, k1, k2, k3, k4⟩, h4⟩ := h
  exact ⟨⟨dx, e _ _ h1⟩, h2.kp (Kp.same e), ⟨kvs, e _ _ k1, k2, k3, fun kv hkv => let ⟨x, l, a, b, c⟩ := k4 kv hkv; ⟨x, l, a, b, e _ _ c.1, c.2⟩⟩, h4⟩
theorem Known.small (h : Known H d ss qs av) (hd : H d = some (.dK kvs)) (hs : ss.length ≤ 30) (hq : qs.length ≤ 10000) : kvs.length < sizeLine := by
  obtain ⟨kvs', k1, k2, k3, k4⟩ := h
  rw [hd] at k1; cases k1
  have := nodup_len (m := (reachL ss qs).map fun (x : Nat) => (Sum.inl (x : Int) : Key)) k2 fun y hy => by
    obtain ⟨kv, hkv, rfl⟩ := List.mem_map.mp hy
    obtain ⟨x, l, rfl, hx, _⟩ := k4 kv hkv
    exact List.mem_map.mpr ⟨x, hx, rfl⟩
  rw [List.length_map, List.length_map] at this
  have h2 := reachL_len ss qs
  rw [sizeLine_eq]; omega
/-- one more place is remembered -/
theorem CtAt.put (h : CtAt K CT CP CC H c a d ss qs av) (hd : H d = some (.dK kvs)) (hn : valV kvs (Sum.inl (x : Int) : Key) = none) (hx : x ∈ reachL ss qs) (hl : H l = some (.lst (natV (cnt ss x)))) (hv : ¬ av l) :
    CtAt K CT CP CC (upd H d (.dK (putK kvs (Sum.inl (x : Int)) (.ref l)))) c a d ss qs av := by
  have B : But d H (upd H d (.dK (putK kvs (Sum.inl (x : Int)) (.ref l)))) := But.at But.refl
  obtain ⟨⟨dx, h1⟩, h2, ⟨kvs', k1, k2, ⟨v, k3⟩, k4⟩, h4⟩ := h
  rw [hd] at k1; cases k1
  refine ⟨⟨dx, B _ _ (fun z => by subst z; rw [hd] at h1; cases h1) h1⟩, h2.but B hd, ⟨_, upd_same, nd_putK _ k2 hn, ?_, fun kv hkv => ?_⟩, h4⟩
  · rw [valV_put]
    split
    · exact ⟨_, rfl⟩
    · exact ⟨v, k3⟩
  · rw [putK_new _ hn] at hkv
    rcases List.mem_append.mp hkv with hkv | hkv
    · obtain ⟨x', l', e1, e2, e3⟩ := k4 kv hkv
      exact ⟨x', l', e1, e2, but_lst B hd e3.1, e3.2⟩
    · cases List.mem_singleton.mp hkv
      exact ⟨x, l, rfl, hx, but_lst B hd hl, hv⟩
theorem Known.get (h : Known H d ss qs av) (hd : H d = some (.dK kvs)) {v : V} (hv : valV kvs (Sum.inl (x : Int) : Key) = some v) : ∃ l, v = .ref l ∧ H l = some (.lst (natV (cnt ss x))) := by
  obtain ⟨kvs', k1, k2, k3, k4⟩ := h
  rw [hd] at k1; cases k1
  unfold valV at hv
  obtain ⟨kv, h1, rfl⟩ := Option.map_eq_some_iff.mp hv
  have h2 := List.find?_some h1
  obtain ⟨x', l, e1, _, e2, _⟩ := k4 kv (List.mem_of_find?_eq_some h1)
  have h3 : kv.1 = Sum.inl (x : Int) := of_decide_eq_true h2
  subst e1
  have : x' = x := by
    have : (x' : Int) = x := Sum.inl.inj h3
    omega
  subst this
  exact ⟨l, rfl, e2⟩
variable (K CT CP CC)
end
end L2.Px
set_option Elab.async false
set_option linter.all false
set_option maxRecDepth 100000
set_option maxHeartbeats 1000000
namespace L2.Px
open PySem PySem.Spec PyProof.Rows StX TL
section
variable {X : Cx} {K : PySem.W.Frag} {ta : TA} {e e2 : Expr} {p pos tpos : Pos} {elts : List Expr} {kk : Nat}
variable {σ : St} {H : Hp} {Rr : It → Hp → Prop} {a b : Addr} {xs ys : List V}
variable {td ty tv te : TE} {nx ct bk : St → Hp → Prop} {rt : VK} {tc : TE} {R : Bool → Hp → Prop} {Q : VK}
theorem rd_dget (h : td σ H fun x H1 => ty σ H1 fun y H2 => ∃ a v, x = .ref a ∧ DGet H2 a y (some v) ∧ Q v H2) : tDGet td ty σ H Q := h
theorem rd_dput (h : tv σ H fun v H1 => td σ H1 fun x H2 => ty σ H2 fun y H3 => ∃ a H4, x = .ref a ∧ DPut H3 a y v H4 ∧ nx σ H4) : sDPut td ty tv ⟨nx, rt, bk, ct⟩ σ H := h
theorem rd_dnotin (h : ty σ H fun y H1 => td σ H1 fun x H2 => ∃ a o, x = .ref a ∧ DGet H2 a y o ∧ Q (.bl (!o.isSome)) H2) : tDNotIn ty td σ H Q := h
theorem rd_din (h : ty σ H fun y H1 => td σ H1 fun x H2 => ∃ a o, x = .ref a ∧ DGet H2 a y o ∧ Q (.bl o.isSome) H2) : tDIn ty td σ H Q := h
theorem rd_par3 {i j l : Nat} (h : ta σ H fun vs H1 => ∃ v w u, vs = [v, w, u] ∧ nx (((σ.set i (some v)).set j (some w)).set l (some u)) H1) : tPar3 i j l ta ⟨nx, rt, bk, ct⟩ σ H := h
end
section
variable {K : PySem.W.Frag} {CT CP CC : Addr} {H H' : Hp} {a c d x : Addr} {ss : List Stp} {qs : List Nat} {dx : Addr} {fs : List (Str × V)} {av : Addr → Prop}
theorem but_any {kvs : List (Key × V)} {b : Addr} {o : HO} (e : But d H H') (hd : H d = some (.dK kvs)) (h : H b = some o) (no : ∀ k, o ≠ .dK k) : H' b = some o := e _ _ (fun z => by subst z; rw [hd] at h; cases h; exact no _ rfl) h
theorem ixN_natx {n j : Nat} (hj : j < n) : ixN n (j : Int) = some j := by
  unfold ixN
  rw [if_pos (by omega), if_pos (by omega)]
  simp
theorem CtAt.dk {qs : List Nat} (h : CtAt K CT CP CC H c a d ss qs av) : ∃ kvs, H d = some (.dK kvs) := let ⟨kvs, e, _⟩ := h.kn.ex; ⟨kvs, e⟩
/-- counters where all but the dict stands as it stood, and what is remembered avoids av -/
theorem CtAt.re {qs qs' : List Nat} {av' : Addr → Prop} (h : CtAt K CT CP CC H c a d ss qs av) (e : But d H H') (k : Known H' d ss qs' av') (hq : qs'.length ≤ 10000) : CtAt K CT CP CC H' c a d ss qs' av' := by
  obtain ⟨kvs, hd⟩ := h.dk
  obtain ⟨dx, hc⟩ := h.ins
  exact ⟨⟨dx, but_any e hd hc (fun k z => by cases z)⟩, h.tx.but e hd, k, hq⟩
/-- what is remembered does not stand at D -/
theorem Known.upd {qs : List Nat} {D : Addr} {o : HO} (k : Known H d ss qs av) (hD : av D) (hd : D ≠ d) : Known (upd H D o) d ss qs av := by
  obtain ⟨kvs, k1, k2, k3, k4⟩ := k
  refine ⟨kvs, by rw [upd_ne (Ne.symm hd)]; exact k1, k2, k3, fun kv hkv => ?_⟩
  obtain ⟨x, l, e1, e2, e3, e4⟩ := k4 kv hkv
  exact ⟨x, l, e1, e2, by rw [upd_ne (fun z => e4 (by rw [z]; exact hD))]; exact e3, e4⟩
/-- a new address is avoided -/
theorem Known.fresh {qs : List Nat} {D : Addr} (k : Known H d ss qs av) (hD : H D = none) : Known H d ss qs (fun b => b = D ∨ av b) := by
  obtain ⟨kvs, k1, k2, k3, k4⟩ := k
  refine ⟨kvs, k1, k2, k3, fun kv hkv => ?_⟩
  obtain ⟨x, l, e1, e2, e3, e4⟩ := k4 kv hkv
  exact ⟨x, l, e1, e2, e3, fun z => z.elim (fun z => by subst z; rw [hD] at e3; cases e3) e4⟩
end
end L2.Px
set_option Elab.async false
set_option linter.all false
set_option maxRecDepth 100000
set_option maxHeartbeats 1000000
namespace L2.Px
open PySem PySem.Spec PyProof.Rows StX TL
/-- how often one of the keys stands ahead of p -/
def tot (ss : List Stp) (keys : List Nat) (p : Nat) : Nat := (keys.map (cn ss p)).sum
theorem tot_mono (ss : List Stp) (keys : List Nat) {a b : Nat} (h : a ≤ b) : tot ss keys a ≤ tot ss keys b := by
  unfold tot
  induction keys with
  | nil => simp
  | cons k r ih => simp only [List.map_cons, List.sum_cons]; have := cn_mono ss k h; omega
/-- p is the place at which one of the keys stands for the time n -/
def IsNth (ss : List Stp) (keys : List Nat) (n p : Nat) : Prop := p < sz ss ∧ tot ss keys p ≤ n ∧ n < tot ss keys (p + 1)
section
variable {K : PySem.W.Frag} {CT CP CC : Addr} {H H' H1 : Hp} {Q : VK} {E : XK} {c a d l D : Addr} {ss : List Stp} {qs : List Nat} {av : Addr → Prop} {L : List Nat} {o : HO}
theorem natV_ints (L : List Nat) : natV L = (L.map fun m => ((m : Nat) : Int)).map V.int := by unfold natV; rw [List.map_map]; rfl
theorem but_put (e : But d H1 H) (hD : H1 D = none) : But d H1 (upd H D o) := fun b u hb h => by rw [upd_ne (ne_of_none h hD)]; exact e b u hb h
/-- throughout a comprehension that asks the counter -/
def Asks (H1 : Hp) (d D : Addr) (ss : List Stp) (qs : List Nat) (av : Addr → Prop) (H : Hp) : Prop := But d H1 H ∧ Known H d ss qs (fun b => b = D ∨ av b)
theorem Asks.put (ct : CtAt K CT CP CC H1 c a d ss qs av) (hD : H1 D = none) (h : Asks H1 d D ss qs av H) : Asks H1 d D ss qs av (upd H D o) := by
  obtain ⟨kvs, hd⟩ := ct.dk
  have nd : D ≠ d := fun z => by subst z; rw [hd] at hD; cases hD
  exact ⟨but_put h.1 hD, h.2.upd (.inl rfl) nd⟩
theorem Asks.ct (ct : CtAt K CT CP CC H1 c a d ss qs av) (h : Asks H1 d D ss qs av H) : CtAt K CT CP CC H c a d ss qs (fun b => b = D ∨ av b) := ct.re h.1 h.2 ct.few
variable (K CT CP CC)
/-- first .. last, both included; empty: last = first - 1 -/
def sp_check_range : Sp := fun vs H Q _ => ∃ a ss, ∃ f e : Nat, vs = [.ref a, .int f, .int ((e : Int) - 1)] ∧ TX K CT CP H a ss ∧ f ≤ e ∧ e ≤ sz ss ∧ Q .non H
end
end L2.Px
set_option Elab.async false
set_option linter.all false
set_option maxRecDepth 100000
set_option maxHeartbeats 1000000
namespace L2.Px
open PySem PySem.Spec PyProof.Rows StX TL
section
variable {K : PySem.W.Frag} {CT CP CC : Addr} {H H' H1 : Hp} {Q : VK} {E : XK} {c a d l D : Addr} {ss : List Stp} {qs : List Nat} {av : Addr → Prop} {i lo hi : Int}
theorem rd_isIntT (h : lo ≤ i ∧ i ≤ hi) (q : Q (.bl true) H) : sp_is_integer [.int i, .int lo, .int hi] H Q E := ⟨_, _, _, rfl, trivial, by rw [show isInt lo hi (.int i) = true from decide_eq_true h]; exact q⟩
theorem CtAt.insM {m : Str} (h : CtAt K CT CP CC H c a d ss qs av) (hm : m ≠ "known" ∧ m ≠ "text" := by decide +kernel) : InsM H c CC m := let ⟨dx, e⟩ := h.ins; ⟨dx, _, e, counterF_no hm⟩
theorem rd_checkRange {i j : Int} (h : TX K CT CP H a ss) (h1 : 0 ≤ i) (h2 : i ≤ j + 1) (h3 : j + 1 ≤ sz ss) (q : Q .non H) : sp_check_range K CT CP [.ref a, .int i, .int j] H Q E :=
  ⟨a, ss, i.toNat, (j + 1).toNat, by rw [Int.toNat_of_nonneg h1, Int.toNat_of_nonneg (by omega), Int.add_sub_cancel], h, by omega, by omega, q⟩
variable (K CT CP)
def sp_letters_between : Sp := fun vs H Q _ => ∃ a ss, ∃ f e : Nat, vs = [.ref a, .int f, .int ((e : Int) - 1)] ∧ TX K CT CP H a ss ∧ f ≤ e ∧ e ≤ sz ss ∧ e ≤ f + 1000 ∧ ∀ H', Same H H' → Q (.str (mkS (((ls ss).take e).drop f))) H'
end
end L2.Px
set_option Elab.async false
set_option linter.all false
set_option maxRecDepth 100000
set_option maxHeartbeats 1000000
namespace PySem
open Sem (wp)
end PySem
namespace L2.Px
open PySem PySem.Spec PyProof.Rows StX TL
end L2.Px
set_option Elab.async false
set_option linter.all false
set_option maxRecDepth 100000
set_option maxHeartbeats 1000000
namespace L2.Px
open PySem PySem.Spec PyProof.Rows StX TL
def NoX : XK := fun _ _ _ => False
/-- the places of k from f on, at most 100 -/
structure IsPl (ss : List Stp) (k f : Nat) (L : List Nat) : Prop where
  le : L.length ≤ 100
  nth : ∀ j, j < L.length → IsNth ss [k] (cn ss f k + j) (L[j]?.getD 0)
  all : L.length = 100 ∨ cn ss (sz ss) k ≤ cn ss f k + L.length
theorem tot_one (ss : List Stp) (k p : Nat) : tot ss [k] p = cn ss p k := by simp [tot]
end L2.Px
set_option Elab.async false
set_option linter.all false
set_option maxRecDepth 100000
set_option maxHeartbeats 1000000
namespace L2.Px
open PySem PySem.Spec PyProof.Rows StX TL
end L2.Px
set_option Elab.async false
set_option linter.all false
set_option maxRecDepth 100000
set_option maxHeartbeats 1000000
namespace L2.Px
open PySem PySem.Spec PyProof.Rows StX TL
section
variable {wi : TI} {g : TG} {tt : TT} {tk tv : TE} {ws : List Nat} {σ : St} {H : Hp} {Q : VK}
def DcW (J : It) (g : TG) (tt : TT) (tk tv : TE) (vs : List Nat) (σ : St) (H1 : Hp) (D : Addr) (Qd : Hp → Prop) : Prop := ∃ W : Nat → Nat → Hp → Prop, (∃ m, W 0 m (upd H1 D (.dK []))) ∧ ∀ i m H, W i m H →
  (J.stop i H ∧ Qd H) ∨ (J.go i H ∧ ∃ Nx : Hp → Prop, (∀ H', Nx H' → ∃ m', m' < m ∧ W (i + 1) m' H') ∧ ∀ x H', J.yld i H x H' → g x (wipe σ vs) H' fun σ2 H2 => wipe σ2 vs = wipe σ vs ∧ tt σ2 H2 fun b H3 =>
    if b = true then tk σ2 H3 fun y H4 => tv σ2 H4 fun z H5 => ∃ kvs k, y = kV k ∧ H5 D = some (.dK kvs) ∧ kvs.length < sizeLine ∧ Nx (upd H5 D (.dK (putK kvs k z))) else Nx H3)
theorem rd_dc (h : wi σ H fun J H1 => ∀ D, H1 D = none → DcW J g tt tk tv ws σ H1 D fun H' => Q (.ref D) H') : tDc wi g tt tk tv ws σ H Q := h
theorem rd_dget2 {td ty tx : TE} (h : td σ H fun x H1 => ∃ a, x = .ref a ∧ IsD H1 a ∧ ty σ H1 fun y H2 => tx σ H2 fun z H3 => ∃ o, DGet H3 a y o ∧ Q (o.getD z) H3) : tDGet2 td ty tx σ H Q := h
end
end L2.Px
set_option Elab.async false
set_option linter.all false
set_option maxRecDepth 100000
set_option maxHeartbeats 1000000
namespace L2.Px
open PySem PySem.Spec PyProof.Rows StX TL
/-- the text x, each sign in a new pair -/
def Ites (x : Str) : It :=
  ⟨fun i _ => i < x.cps.size, fun i H v H' => ∃ T c, v = .ref T ∧ H T = none ∧ H' = upd H T (.tup [.int (i : Nat), .str ⟨#[c]⟩]) ∧ x.cps[i]? = some c, fun i _ => i = x.cps.size⟩
theorem turn_es {P : Program} {w : World} {K : PySem.W.Frag} {elts : List Expr} {kk : Nat} {tpos : Pos} {x : Str} {t : Tok} (e it : Addr) :
    Turn P w K (.Tuple elts kk tpos) (Ites x) [e, it] e (fun i h => (∃ old, IsEnum h e it ((i : Nat) : Int) old) ∧ h.IsStrIter it (strIterType x) x t i ∧ e ≠ it) where
  mem := by simp
  obj := fun i h st b hb => by
    obtain ⟨⟨old, he⟩, ⟨o, ho, hc, hd⟩, _⟩ := st
    have e' : b = e ∨ b = it := by simpa using hb
    rcases e' with z | z
    · rw [z]; exact ⟨_, he, fun v q => nomatch q⟩
    · rw [z]; exact ⟨o, ho, fun v q => by rw [hd] at q; cases q⟩
  keep := fun i h h' st k => let ⟨⟨old, he⟩, ⟨o, ho, r⟩, hne⟩ := st; ⟨⟨old, k e (by simp) _ he⟩, ⟨o, k it (by simp) _ ho, r⟩, hne⟩
  item := by
    intro X hP hw hK hc i pins s σ H E I hf st hg
    subst hP hw hK
    obtain ⟨⟨old, he⟩, hit, hne⟩ := st
    have hel : e < s.heap.objs.size := Heap.lt_size he
    have hil : it < s.heap.objs.size := by obtain ⟨_, q, _⟩ := hit; exact Heap.lt_size q
    have hh : X.A.handled = none := I.ok.hd hc
    refine wpAny_pyNext_enum_itemD (Draws.text (A := X.A.in1) hh it x t) he hit hg hne (by simp [hne]) fun u' h' tk hu' ho hit' hT hsz hk => ?_
    obtain ⟨c, u, hcx, rfl⟩ := hu'
    refine ⟨_, rfl, wpAny_letOwnedTupleGo_enum (s := { s with heap := h', toks := tk + 1 }) ho fun h'' he' sb => ?_⟩
    have hT2 : h''.get? s.heap.objs.size = some { cls := .type "tuple", data := .seq #[.int i tk, .str ⟨#[c]⟩ u] } := (sb.2 _ (Nat.ne_of_gt hel)).trans hT
    have new : ObjOk X.prog X.w (upd H s.heap.objs.size (.tup [.int (i : Nat), .str ⟨#[c]⟩])) h'' s.heap.objs.size (.tup [.int (i : Nat), .str ⟨#[c]⟩]) :=
      ⟨by show 2 ≤ sizeLine; decide, [.int i tk, .str ⟨#[c]⟩ u], .cons ⟨_, rfl⟩ (.cons ⟨_, rfl⟩ .nil), ⟨_, hT2, rfl, _, rfl⟩⟩
    have I1 : Inv X pins σ (upd H s.heap.objs.size (.tup [.int (i : Nat), .str ⟨#[c]⟩])) { s with heap := h'', toks := tk + 1 } :=
      I.turnedNew (ch := [e, it]) (fun b ob hb q => (sb.2 b (fun z => hb (by simp [z]))).trans (hk b ob (fun z => hb (by simp [z])) (fun z => hb (by simp [z])) q)) hf (Nat.le_refl _) new
    refine ⟨.ref s.heap.objs.size, _, I1, rfl, ⟨_, c, rfl, I.hok.fresh (Nat.le_refl _), rfl, hcx⟩, ⟨⟨.str ⟨#[c]⟩ u, ?_⟩, ?_, hne⟩, fun b hb => ?_⟩
    · have e1 : ((i + 1 : Nat) : Int) = (i : Int) + 1 := by omega
      rw [e1]; exact he'
    · obtain ⟨o1, q1, r1⟩ := hit'
      exact ⟨o1, (sb.2 it (Ne.symm hne)).trans q1, r1⟩
    · have hb' : b < s.heap.objs.size := by
        have e' : b = e ∨ b = it := by simpa using hb
        rcases e' with z | z
        · rw [z]; exact hel
        · rw [z]; exact hil
      rw [upd_ne (Nat.ne_of_lt hb')]
      exact (hf b hb).1
  done := by
    intro X hP hw hK hc i pins s σ H E I hf st hg
    subst hP hw hK
    obtain ⟨⟨old, he⟩, hit, hne⟩ := st
    obtain ⟨f0, f1, f2, f3, f4, f5⟩ := hf it (by simp)
    have hh : X.A.handled = none := I.ok.hd hc
    have hg : i = x.cps.size := hg
    subst hg
    exact wpAny_pyNext_enum_endD (Draws.text (A := X.A.in1) hh it x t) he hit fun h' eb => ⟨rfl, I.turned (t' := s.toks) (fun b o hb q => eb b o hb q) f0 f1 f3 f4 f5⟩
  self := fun A i s Q E st h => let ⟨⟨_, he⟩, _⟩ := st; wpAny_pyIter_enum he h
def iEnumS (ta : TA) : TI := fun σ H R => ta σ H fun vs H1 => ∃ x, vs = [.str x] ∧ R (Ites x) H1
theorem pi_enumS {X : Cx} {e : Expr} {ta : TA} {p pos tpos : Pos} {elts : List Expr} {kk : Nat} (hg : Gl X "enumerate") (hm : X.mg "enumerate" = none) (ha : PA X [e] ta) (hs : starEach [e] X.env = [(false, eval e X.env)] := by rfl) :
    PI X (.Tuple elts kk tpos) (.Call (.Name "enumerate" p) [e] [] pos) (iEnumS ta) := by
  refine ⟨fun pins s σ H R I h => ?_⟩
  refine Call_ (ld_blt I hg hm boot_enumerate (PyProof.Rows.callWith_type1 (thn (ha.run pos pins s σ H _ I h) fun us s1 ⟨vs, H1, I1, r1, q1⟩ => ?_) hs rfl))
  obtain ⟨x, ex, q⟩ := q1
  subst ex
  cases r1 with
  | cons r rr =>
    cases rr
    obtain ⟨t, rfl⟩ := r
    refine call_enumerate_str fun h' he hit hsz hk => wpAny_pyIter_enum he ?_
    have I2 : Inv X pins σ H1 { s1 with heap := h' } := I1.kept (t' := s1.toks) hk
    refine ⟨s1.heap.objs.size + 1, [s1.heap.objs.size + 1, s1.heap.objs.size], _, _, H1, rfl, I2, turn_es (t := t) (s1.heap.objs.size + 1) s1.heap.objs.size, ⟨⟨.none, he⟩, hit, Nat.succ_ne_self _⟩, fun b hb => ?_, q⟩
    have e' : b = s1.heap.objs.size + 1 ∨ b = s1.heap.objs.size := by simpa using hb
    have hle : s1.heap.objs.size ≤ b := by
      rcases e' with z | z
      · rw [z]; exact Nat.le_add_right _ _
      · rw [z]; exact Nat.le_refl _
    exact I1.fpOk hle (I1.hok.fresh hle)
theorem rd_iEnumS {ta : TA} {σ : St} {H : Hp} {Rr : It → Hp → Prop} (h : ta σ H fun vs H1 => ∃ x, vs = [.str x] ∧ Rr (Ites x) H1) : iEnumS ta σ H Rr := h
theorem pairy_es {L : List Nat} {H : Hp} : Pairy (Ites (mkS L)) L.length (fun i => [.int (i : Nat), .str ⟨#[L[i]?.getD 0]⟩]) H where
  stop := fun H s => by show L.length = _; simp [mkS]
  go := fun i H s hi => by show i < _; simpa [mkS] using hi
  yld := fun i H x H' s hi y => by
    obtain ⟨T, c, e1, e2, e3, e4⟩ := y
    have e4' : L[i]? = some c := by simpa [mkS] using e4
    exact ⟨T, e2, by rw [e3, e4']; rfl, e1⟩
theorem rd_isLetter {c : Nat} {H : Hp} {Q : VK} {E : XK} (h : 97 ≤ c ∧ c ≤ 122) (q : Q (.bl true) H) : sp_is_letter [.str ⟨#[c]⟩] H Q E :=
  ⟨_, rfl, trivial, fun x e => by cases e; rw [sizeLine_eq]; exact (by decide : 1 ≤ 16777216), by rw [show isLet (.str ⟨#[c]⟩) = true from by simp [isLet, h.1, h.2]]; exact q⟩
end L2.Px
set_option Elab.async false
set_option linter.all false
set_option maxRecDepth 100000
set_option maxHeartbeats 1000000
namespace L2.Px
open PySem PySem.Spec PyProof.Rows StX TL
section
variable {K : PySem.W.Frag} {CT CP : Addr} {H : Hp} {Q : VK} {E : XK} {r : Addr} {i : Int}
theorem okLs.join {a b : List Stp} (h : okLs a) (g : okLs b) : okLs (joinS a b) := fun c hc => by
  rw [tyL_join] at hc
  exact (List.mem_append.mp hc).elim (h c) (g c)
end
end L2.Px
set_option Elab.async false
set_option linter.all false
set_option maxRecDepth 100000
set_option maxHeartbeats 1000000
namespace L2.Px
open PySem PySem.Spec PyProof.Rows StX TL
theorem sum_map_add (L : List Nat) (f g : Nat → Nat) : (L.map fun k => f k + g k).sum = (L.map f).sum + (L.map g).sum := by
  induction L with
  | nil => rfl
  | cons x L ih => simp only [List.map_cons, List.sum_cons, ih]; omega
theorem nth_unique {ss : List Stp} {keys : List Nat} {n p q : Nat} (h : IsNth ss keys n p) (g : IsNth ss keys n q) : p = q := by
  rcases Nat.lt_trichotomy p q with z | z | z
  · have := tot_mono ss keys (show p + 1 ≤ q from z)
    have := h.2.2; have := g.2.1; omega
  · exact z
  · have := tot_mono ss keys (show q + 1 ≤ p from z)
    have := g.2.2; have := h.2.1; omega
theorem tot_ind (keys : List Nat) (k : Nat) : (keys.map fun j => if k = j then 1 else 0).sum = keys.count k := by
  induction keys with
  | nil => rfl
  | cons x r ih => rw [List.map_cons, List.sum_cons, ih, List.count_cons]; simp only [beq_iff_eq]; by_cases z : k = x <;> simp [z, eq_comm, Nat.add_comm]
theorem tot_succ {ss : List Stp} (ok : okFrom 0 ss) (keys : List Nat) {p : Nat} (h : p < sz ss) : tot ss keys (p + 1) = tot ss keys p + keys.count (kat ss p) := by
  unfold tot
  rw [← tot_ind, ← sum_map_add]
  congr 1
  refine List.map_congr_left fun k _ => cn_succ ok h k
end L2.Px
set_option Elab.async false
set_option linter.all false
set_option maxRecDepth 100000
set_option maxHeartbeats 1000000
namespace L2.Px
open PySem PySem.Spec PyProof.Rows StX TL
section
variable {K : PySem.W.Frag} {CT CP CC : Addr} {H H' H1 : Hp} {Q : VK} {E : XK} {a l : Addr} {ss : List Stp} {i j : Int} {L M : List Nat}
theorem IsPl.head {k f : Nat} (ok : okFrom 0 ss) (h : IsPl ss k f L) (hf : f < sz ss) (hk : kat ss f = k) : L[0]?.getD 0 = f ∧ 0 < L.length := by
  have e := tot_succ ok [k] hf
  rw [tot_one, tot_one, hk] at e
  simp at e
  have := cn_mono ss k (show f + 1 ≤ sz ss from hf)
  have hl : 0 < L.length := by have := h.all; omega
  refine ⟨nth_unique (h.nth 0 hl) ⟨hf, ?_, ?_⟩, hl⟩
  · rw [tot_one]; exact Nat.le_refl _
  · rw [tot_one]; omega
variable (K CT CP)
end
end L2.Px
set_option Elab.async false
set_option linter.all false
set_option maxRecDepth 100000
set_option maxHeartbeats 4000000
namespace L2.Px
open PySem PySem.Spec PyProof.Rows
end L2.Px
namespace L2.Px
open PySem PySem.Spec PyProof.Rows
end L2.Px
set_option Elab.async false
set_option linter.all false
set_option maxRecDepth 100000
set_option maxHeartbeats 1000000
namespace L2.Px
open PySem PySem.Spec PyProof.Rows StX TL
/-- a list of the steps ss -/
def LX (K : PySem.W.Frag) (H : Hp) (a : Addr) (ss : List Stp) : Prop := ∃ ms, H a = some (.lst ms) ∧ StepsAt K H ms ss
section
variable {K : PySem.W.Frag} {CT CP : Addr} {H H' : Hp} {Q : VK} {E : XK} {a b r p : Addr} {ss : List Stp} {L M : List Nat}
theorem LX.mono (h : LX K H a ss) (e : Same H H') : LX K H' a ss := let ⟨ms, q, s⟩ := h; ⟨ms, e _ _ q, s.mono e⟩
end
end L2.Px
namespace L2.Px
open PySem PySem.Spec PyProof.Rows StX TL
end L2.Px
namespace L2.Px
open PySem PySem.Spec PyProof.Rows StX TL
end L2.Px
namespace L2.Px
open PySem PySem.Spec PyProof.Rows StX TL
/-- rising lists of the same members are equal -/
theorem rising_unique {α : Type} {lt : α → α → Prop} (ir : ∀ a, ¬ lt a a) (tr : ∀ a b c, lt a b → lt b c → lt a c) : ∀ {l m : List α}, l.Pairwise lt → m.Pairwise lt → (∀ x, x ∈ l ↔ x ∈ m) → l = m
  | [], [], _, _, _ => rfl
  | [], y :: m, _, _, h => absurd ((h y).mpr List.mem_cons_self) (List.not_mem_nil)
  | x :: l, [], _, _, h => absurd ((h x).mp List.mem_cons_self) (List.not_mem_nil)
  | x :: l, y :: m, h1, h2, h => by
    obtain ⟨a1, a2⟩ := List.pairwise_cons.mp h1
    obtain ⟨b1, b2⟩ := List.pairwise_cons.mp h2
    have e : x = y := by
      rcases List.mem_cons.mp ((h x).mp List.mem_cons_self) with z | z
      · exact z
      · rcases List.mem_cons.mp ((h y).mpr List.mem_cons_self) with u | u
        · exact u.symm
        · exact absurd (tr _ _ _ (a1 _ u) (b1 _ z)) (ir x)
    subst e
    rw [rising_unique ir tr a2 b2 fun z => ⟨fun hz => ((List.mem_cons.mp ((h z).mp (List.mem_cons_of_mem _ hz))).resolve_left fun e => ir x (by have := a1 _ hz; rwa [e] at this)),
      fun hz => ((List.mem_cons.mp ((h z).mpr (List.mem_cons_of_mem _ hz))).resolve_left fun e => ir x (by have := b1 _ hz; rwa [e] at this))⟩]
end L2.Px
namespace L2.Px
open PySem PySem.Spec PyProof.Rows StX TL
end L2.Px
set_option Elab.async false
set_option linter.all false
set_option maxRecDepth 100000
set_option maxHeartbeats 1000000
namespace L2.Px
open PySem PySem.Spec PyProof.Rows StX TL
end L2.Px
namespace L2.Px
open PySem PySem.Spec PyProof.Rows StX TL
end L2.Px
namespace L2.Px
open PySem PySem.Spec PyProof.Rows StX TL
end L2.Px
set_option Elab.async false
set_option linter.all false
set_option maxRecDepth 100000
set_option maxHeartbeats 1000000
namespace L2.Px
open PySem PySem.Spec PyProof.Rows StX TL
/-- a def of the top whose last parameters have the defaults dvs -/
def DefGF (K : PySem.W.Frag) (mg : Str → Option Value) (x : Str) (st : Stmt) (ps : List Str) (dvs : List V) : Prop :=
  ∃ f fd, L2.FunD K x x (defArgs st) (defBody st) (defScope st) dvs [] f fd ∧ mg x = some (.ref f) ∧ (∃ ds, Vals dvs ds ∧ Binds K fd ps ds) ∧ Binds K fd ps []
section
variable {P : Program} {w : World} {K : PySem.W.Frag} {mg : Str → Option Value} {base : Heap} {k : Nat} {x : Str} {st : Stmt} {ps : List Str} {sp : Sp} {dvs : List V} {h : Heap} {f : Addr}
theorem DefGF.run {N : List Str} (D : DefGF K mg x st ps dvs) (S : FnScope N ps (defScope st)) (len : ∀ vs H Q E, sp vs H Q E → vs.length = ps.length)
    (hbody : ∀ (f : Addr) (cdv : Value) (A : Around) (outer : List Env) (s : Shared) (H : Hp) (vs : List V) (Q : VK) (E : XK), Room k (A.deeper (envOfC x (defScope st) s.heap.objs.size f cdv)) → sp vs H Q E →
      ∃ t, PSs (cxOf CX0 P w K mg base N x (defScope st) f cdv A outer s H E).nox (defBody st) t ∧ t { nx := fun _ H' => Q .non H', rt := Q } (start N vs) H) :
    GOk P w K mg base CX0 (k + 1) x (fun vs => sp (vs ++ dvs)) ∧ GOk P w K mg base CX0 (k + 1) x sp := by
  obtain ⟨f, fd, F, a, ⟨ds, hd, b⟩, b0⟩ := D
  have R := F.ok (CX := CX0) (P := P) (w := w) (mg := mg) (base := base) S len fun cdv A outer s H vs Q E hr h => by
    obtain ⟨t, ht, q⟩ := hbody f cdv A outer s H vs Q E hr h
    exact ⟨t, ht.nox, q⟩
  exact ⟨⟨f, FnOk.toR1 R b hd, a, F.kp⟩, ⟨f, FnOk.toR R b0, a, F.kp⟩⟩
theorem DefGF.ok {N : List Str} (D : DefGF K mg x st ps dvs) (S : FnScope N ps (defScope st)) (len : ∀ vs H Q E, sp vs H Q E → vs.length = ps.length)
    (hbody : ∀ (f : Addr) (cdv : Value) (A : Around) (outer : List Env) (s : Shared) (H : Hp) (vs : List V) (Q : VK) (E : XK), Room k (A.deeper (envOfC x (defScope st) s.heap.objs.size f cdv)) → sp vs H Q E →
      ∃ t, PSs (cxOf CX0 P w K mg base N x (defScope st) f cdv A outer s H E).nox (defBody st) t ∧ t { nx := fun _ H' => Q .non H', rt := Q } (start N vs) H) :
    GOk P w K mg base CX0 (k + 1) x (fun vs => sp (vs ++ dvs)) := (D.run S len hbody).1
end
end L2.Px
set_option Elab.async false
set_option linter.all false
set_option maxRecDepth 100000
set_option maxHeartbeats 1000000
namespace L2.Px
open PySem PySem.Spec PyProof.Rows StX TL
/-- how many keys stand ahead of p -/
noncomputable def few (l : List Nat) (p : Nat) : Nat := open Classical in if h : ∃ m, ∀ x, x ∈ l.take p ↔ x < m then h.choose else 0
theorem ls_at {ss : List Stp} (ok : okFrom 0 ss) {p : Nat} (h : p < sz ss) : (ls ss)[p]? = some (lat ss (kat ss p)) := by
  unfold ls
  rw [List.getElem?_map, kat_some ok h]; rfl
theorem ls_cut {ss : List Stp} (ok : okFrom 0 ss) {i e : Nat} (h1 : i ≤ e) (h2 : e ≤ sz ss) : ((ls ss).take e).drop i = (List.range (e - i)).map fun j => lat ss (kat ss (i + j)) := by
  apply List.ext_getElem?
  intro j
  rw [List.getElem?_drop, List.getElem?_take, List.getElem?_map]
  by_cases h : j < e - i
  · rw [if_pos (by omega), List.getElem?_range h, ls_at ok (by omega)]; rfl
  · rw [if_neg (by omega), List.getElem?_eq_none (by rw [List.length_range]; omega)]; rfl
section
variable {K : PySem.W.Frag} {CT CP : Addr} {H H' : Hp} {Q : VK} {E : XK} {a b l D : Addr} {ss : List Stp} {i j : Int} {L : List Nat}
theorem rd_dsetd {td ty tx : TE} {σ : St} (h : td σ H fun x H1 => ∃ a, x = .ref a ∧ IsD H1 a ∧ ty σ H1 fun y H2 => tx σ H2 fun z H3 => ∃ (kvs : List (Key × V)) (k : Key), H3 a = some (.dK kvs) ∧ y = kV k ∧ kvs.length < sizeLine ∧
  (∀ v, valV kvs k = some v → Q v H3) ∧ (valV kvs k = none → Q z (upd H3 a (.dK (putK kvs k z))))) : tDSetd td ty tx σ H Q := h
variable (K CT CP)
variable {K CT CP}
theorem rd_between (h : TX K CT CP H a ss) (h1 : 0 ≤ i) (h2 : i ≤ j + 1) (h3 : j + 1 ≤ sz ss) (h4 : j + 1 ≤ i + 1000) (q : ∀ H', Same H H' → Q (.str (mkS (((ls ss).take (j + 1).toNat).drop i.toNat))) H') : sp_letters_between K CT CP [.ref a, .int i, .int j] H Q E :=
  ⟨a, ss, i.toNat, (j + 1).toNat, by rw [Int.toNat_of_nonneg h1, Int.toNat_of_nonneg (by omega), Int.add_sub_cancel], h, by omega, by omega, by omega, q⟩
end
end L2.Px
set_option Elab.async false
set_option linter.all false
set_option maxRecDepth 100000
set_option maxHeartbeats 1000000
namespace L2.Px
open PySem PySem.Spec PyProof.Rows StX TL
theorem mul_one (a : List Stp) : mulS a 1 = a := if_pos (.inl rfl)
end L2.Px
namespace L2.Px
open PySem PySem.Spec PyProof.Rows StX TL
end L2.Px
namespace L2.Px
open PySem PySem.Spec PyProof.Rows StX TL
end L2.Px
namespace L2.Px
open PySem PySem.Spec PyProof.Rows StX TL
end L2.Px
namespace L2.Px
open PySem PySem.Spec PyProof.Rows StX TL
end L2.Px
namespace L2.Px
open PySem PySem.Spec PyProof.Rows StX TL
end L2.Px
set_option Elab.async false
set_option linter.all false
set_option maxRecDepth 100000
set_option maxHeartbeats 1000000
namespace L2.Px
open PySem PySem.Spec PyProof.Rows StX TL
open Sem (wp)
end L2.Px
set_option Elab.async false
set_option linter.all false
set_option maxRecDepth 100000
set_option maxHeartbeats 1000000
namespace L2.Px
open PySem PySem.Spec PyProof.Rows StX TL
end L2.Px
set_option Elab.async false
set_option linter.all false
set_option maxRecDepth 100000
set_option maxHeartbeats 1000000
namespace L2.Px
open PySem PySem.Spec PyProof.Rows StX TL
/-- for over a walk of plain items -/
theorem for_plain {J : It} {n : Nat} {it : Nat → V} {g : TG} {tb : TS} {D : Ends} {σ : St} {H : Hp} (Pv : Nat → St → Hp → Prop) (h0 : Pv 0 σ H) (hl : ∀ i σ H, i ≤ n → Pv i σ H → Plain J n it H)
    (hs : ∀ i σ H, i < n → Pv i σ H → g (it i) σ H fun σ2 H2 => tb { D with nx := Pv (i + 1), ct := Pv (i + 1), bk := D.nx } σ2 H2) (hd : ∀ σ H, Pv n σ H → D.nx σ H) : ForW J g tb D σ H := by
  refine ⟨fun i m σ H => m = n - i ∧ i ≤ n ∧ Pv i σ H, ⟨n, by simp, Nat.zero_le _, h0⟩, ?_⟩
  rintro i m σ H ⟨rfl, hi, p⟩
  have q := hl i σ H hi p
  by_cases hlt : i < n
  · refine .inr ⟨q.go i H (Same.refl _) hlt, Pv (i + 1), fun σ' H' p' => ⟨n - (i + 1), by omega, rfl, hlt, p'⟩, fun x H' y => ?_⟩
    obtain ⟨e1, e2⟩ := q.yld i H x H' (Same.refl _) hlt y
    subst e1 e2
    exact hs i σ _ hlt p
  · have e : i = n := by omega
    subst e
    exact .inl ⟨q.stop H (Same.refl _), hd σ H p⟩
/-- the list of pairs (key, letter) at l -/
def ChAt (K : PySem.W.Frag) (H : Hp) (l : Addr) (cs : List (Nat × Nat)) (n : Nat) : Prop :=
  ∃ xs : List V, H l = some (.lst xs) ∧ xs.length = cs.length ∧ ∀ (i : Nat) (c : Nat × Nat), cs[i]? = some c → c.1 < n ∧ 97 ≤ c.2 ∧ c.2 ≤ 122 ∧ ∃ T, xs[i]? = some (V.ref T) ∧ H T = some (.tup [.int (c.1 : Nat), .str ⟨#[c.2]⟩])
section
variable (K : PySem.W.Frag) (CT CP : Addr) {H H' : Hp} {a b l : Addr} {ss tt : List Stp} {cs : List (Nat × Nat)} {n : Nat} {Q : VK} {E : XK}
variable {K CT CP}
theorem ChAt.mono (h : ChAt K H l cs n) (S : Same H H') : ChAt K H' l cs n := by
  obtain ⟨xs, e, hl, hx⟩ := h
  exact ⟨xs, S _ _ e, hl, fun i c hc => let ⟨h1, h2, h3, T, h4, h5⟩ := hx i c hc; ⟨h1, h2, h3, T, h4, S _ _ h5⟩⟩
variable (K CT CP)
variable {K CT CP}
end
end L2.Px
set_option Elab.async false
set_option linter.all false
set_option maxRecDepth 100000
set_option maxHeartbeats 1000000
namespace L2.Px
open PySem PySem.Spec PyProof.Rows StX TL
section
variable {K : PySem.W.Frag} {J : It} {n j : Nat} {it : Nat → V} {te : TE} {vs : List Nat} {σ : St} {H H1 : Hp} {D r l : Addr} {Qd : Hp → Prop} {Q : VK} {ss : List Stp}
theorem LX.kp {a : Addr} {H' : Hp} (h : LX K H a ss) (e : Kp H H') : LX K H' a ss := let ⟨ms, q, s⟩ := h; ⟨ms, e _ _ (nr_refs s.refs) q, s.kp e⟩
end
end L2.Px
set_option Elab.async false
set_option linter.all false
set_option maxRecDepth 100000
set_option maxHeartbeats 1000000
namespace L2.Px
open PySem PySem.Spec PyProof.Rows StX TL
end L2.Px
set_option Elab.async false
set_option linter.all false
set_option maxRecDepth 100000
set_option maxHeartbeats 1000000
namespace L2.Px
open PySem PySem.Spec PyProof.Rows StX TL
section
variable {K : PySem.W.Frag} {CT CP : Addr} {H H' H1 : Hp} {Q : VK} {E : XK} {a b l r : Addr} {ss tt : List Stp} {i j : Int} {L M : List Nat} {f g : Nat → Nat} {cs ds : List Nat} {t1 t2 t3 : TO} {te : TE} {σ : St}
theorem rd_iRng3 {t : TA} {Rr : It → Hp → Prop} (h : t σ H fun vs H1 => ∃ (i j c : Int) (n : Nat), vs = [.int i, .int j, .int c] ∧ RgC i j c n ∧ Rr (Itc i c n) H1) : iRng3 t σ H Rr := h
theorem rgC_up {n m : Nat} (hm : 1 ≤ m) (hm2 : m ≤ 1000) (hn : n ≤ 1000000000) : RgC 0 (n : Nat) (m : Nat) ((n + m - 1) / m) := by
  have e : Builtin.Range.rangeSize 0 (n : Nat) (m : Nat) = (((n + m - 1) / m : Nat) : Int) := by
    unfold Builtin.Range.rangeSize
    rw [if_pos (by omega)]
    by_cases h : (0 : Int) < (n : Nat)
    · rw [if_pos h, show ((n : Nat) : Int) - 0 - 1 = ((n - 1 : Nat) : Int) by omega]
      have e1 : (n + m - 1) / m = (n - 1) / m + 1 := by
        rw [show n + m - 1 = (n - 1) + m by omega, Nat.add_div_right _ (by omega)]
      rw [e1]
      rfl
    · rw [if_neg h, Nat.div_eq_of_lt (by omega)]; rfl
  have hle : (n + m - 1) / m ≤ n + m := Nat.le_trans (Nat.div_le_self _ _) (by omega)
  refine ⟨by omega, by omega, ?_, e⟩
  unfold Builtin.Range.small
  rw [e]
  revert hle
  generalize (n + m - 1) / m = q
  intro hle
  simp only [Builtin.Range.rangeFitsLong, Bool.and_eq_true, Bool.or_eq_true, decide_eq_true_eq, beq_iff_eq, show ((m : Nat) : Int) > 0 by omega, if_true]
  omega
theorem plain_rngC {lo c : Int} {n : Nat} : Plain (Itc lo c n) n (fun i => .int (lo + (i : Nat) * c)) H1 where
  stop := fun H s => Nat.le_refl _
  go := fun i H s hi => hi
  yld := fun i H x H' s hi y => ⟨y.1, y.2⟩
theorem rgV_zero (n : Nat) : rgV 0 (n : Nat) = natV (List.range n) := by
  have := rgV_nat 0 n
  rw [show ((0 : Nat) : Int) = 0 from rfl] at this
  rw [this, Nat.sub_zero, ← List.range_eq_range']
  rfl
variable (K CT CP)
variable {K CT CP}
end
end L2.Px
set_option Elab.async false
set_option linter.all false
set_option maxRecDepth 100000
set_option maxHeartbeats 1000000
namespace L2.Px
open PySem PySem.Spec PyProof.Rows StX TL
/-- f leads each key along the heads hs to its root -/
structure Rt (hs : List Nat) (f : Nat → Nat) : Prop where
  le : ∀ k, k < hs.length → hs[k]?.getD 0 ≤ k
  root : ∀ k, k < hs.length → hs[k]?.getD 0 = k → f k = k
  step : ∀ k, k < hs.length → f k = f (hs[k]?.getD 0)
theorem Rt.spec {hs : List Nat} {f : Nat → Nat} (h : Rt hs f) : ∀ k, k < hs.length → f k ≤ k ∧ hs[f k]?.getD 0 = f k ∧ f (f k) = f k := by
  intro k
  induction k using Nat.strongRecOn with
  | _ k ih =>
    intro hk
    by_cases e : hs[k]?.getD 0 = k
    · have r := h.root k hk e
      rw [r]
      exact ⟨Nat.le_refl _, e, r⟩
    · have l := h.le k hk
      obtain ⟨i1, i2, i3⟩ := ih _ (by omega) (show hs[k]?.getD 0 < hs.length by omega)
      rw [h.step k hk]
      exact ⟨by omega, i2, i3⟩
theorem Rt.start (n : Nat) : Rt (List.range n) id := by
  refine ⟨fun k hk => ?_, fun k _ _ => rfl, fun k hk => ?_⟩ <;> rw [List.length_range] at hk <;> rw [List.getElem?_range hk] <;> simp
def tieF (f : Nat → Nat) (a b : Nat) : Nat → Nat := fun k => if f k = max (f a) (f b) then min (f a) (f b) else f k
theorem tieF_at {f : Nat → Nat} {a b k : Nat} : (f k = max (f a) (f b) ∧ tieF f a b k = min (f a) (f b)) ∨ (f k ≠ max (f a) (f b) ∧ tieF f a b k = f k) := by
  unfold tieF
  by_cases h : f k = max (f a) (f b)
  · exact .inl ⟨h, if_pos h⟩
  · exact .inr ⟨h, if_neg h⟩
theorem Rt.tie {hs : List Nat} {f : Nat → Nat} (h : Rt hs f) {a b : Nat} (ha : a < hs.length) (hb : b < hs.length) : Rt (hs.set (max (f a) (f b)) (min (f a) (f b))) (tieF f a b) := by
  obtain ⟨a1, a2, a3⟩ := h.spec a ha
  obtain ⟨b1, b2, b3⟩ := h.spec b hb
  obtain ⟨m, hm, hmax⟩ : ∃ m, m < hs.length ∧ max (f a) (f b) = m := ⟨_, by omega, rfl⟩
  obtain ⟨l, hl, hmin⟩ : ∃ l, l ≤ m ∧ min (f a) (f b) = l := ⟨_, by omega, rfl⟩
  have hfm : f m = m := by
    rcases Nat.le_total (f a) (f b) with z | z
    · rw [← hmax, Nat.max_eq_right z, b3]
    · rw [← hmax, Nat.max_eq_left z, a3]
  have hfl : f l = l := by
    rcases Nat.le_total (f a) (f b) with z | z
    · rw [← hmin, Nat.min_eq_left z, a3]
    · rw [← hmin, Nat.min_eq_right z, b3]
  have T : ∀ k, (f k = m ∧ tieF f a b k = l) ∨ (f k ≠ m ∧ tieF f a b k = f k) := fun k => by
    have := tieF_at (f := f) (a := a) (b := b) (k := k)
    rwa [hmax, hmin] at this
  rw [hmax, hmin]
  refine ⟨fun k hk => ?_, fun k hk e => ?_, fun k hk => ?_⟩ <;> rw [List.length_set] at hk
  · rw [List.getElem?_set]
    by_cases e : m = k
    · rw [if_pos e, if_pos (by omega)]; simp; omega
    · rw [if_neg e]; exact h.le k hk
  · rw [List.getElem?_set] at e
    by_cases e' : m = k
    · rw [if_pos e', if_pos (by omega)] at e
      simp at e
      rcases T k with ⟨t1, t2⟩ | ⟨t1, t2⟩
      · omega
      · subst e'; exact absurd hfm t1
    · rw [if_neg e'] at e
      have := h.root k hk e
      rcases T k with ⟨t1, t2⟩ | ⟨t1, t2⟩
      · omega
      · rw [t2, this]
  · rw [List.getElem?_set]
    by_cases e' : m = k
    · rw [if_pos e', if_pos (by omega)]
      simp only [Option.getD_some]
      rcases T k with ⟨t1, t2⟩ | ⟨t1, t2⟩
      · rcases T l with ⟨u1, u2⟩ | ⟨u1, u2⟩
        · rw [t2, u2]
        · rw [t2, u2, hfl]
      · subst e'; exact absurd hfm t1
    · rw [if_neg e']
      have := h.step k hk
      rcases T k with ⟨t1, t2⟩ | ⟨t1, t2⟩ <;> rcases T (hs[k]?.getD 0) with ⟨u1, u2⟩ | ⟨u1, u2⟩ <;> rw [t2, u2] <;> omega
/-- f is the ties of P, and no more -/
structure Clo (P : List (Nat × Nat)) (f : Nat → Nat) : Prop where
  tied : ∀ p ∈ P, f p.1 = f p.2
  fix : ∀ g : Nat → Nat, (∀ p ∈ P, g p.1 = g p.2) → ∀ k, g (f k) = g k
theorem Clo.tie {P : List (Nat × Nat)} {f : Nat → Nat} (h : Clo P f) (a b : Nat) : Clo (P ++ [(a, b)]) (tieF f a b) := by
  refine ⟨fun p hp => ?_, fun g hg k => ?_⟩
  · rcases List.mem_append.mp hp with hp | hp
    · have := h.tied p hp
      unfold tieF
      rw [this]
    · rw [List.mem_singleton.mp hp]
      show tieF f a b a = tieF f a b b
      rcases tieF_at (f := f) (a := a) (b := b) (k := a) with ⟨t1, t2⟩ | ⟨t1, t2⟩ <;> rcases tieF_at (f := f) (a := a) (b := b) (k := b) with ⟨u1, u2⟩ | ⟨u1, u2⟩ <;> rw [t2, u2] <;> omega
  · have hp := fun p hp => hg p (List.mem_append_left _ hp)
    have hab := hg (a, b) (List.mem_append_right _ List.mem_cons_self)
    have ha := h.fix g hp a
    have hb := h.fix g hp b
    have hk := h.fix g hp k
    have e : g (max (f a) (f b)) = g (min (f a) (f b)) := by
      rcases Nat.le_total (f a) (f b) with z | z
      · rw [Nat.max_eq_right z, Nat.min_eq_left z, ha, hb]; exact hab.symm
      · rw [Nat.max_eq_left z, Nat.min_eq_right z, ha, hb]; exact hab
    rcases tieF_at (f := f) (a := a) (b := b) (k := k) with ⟨t1, t2⟩ | ⟨t1, t2⟩
    · rw [t2, ← e, ← t1, hk]
    · rw [t2, hk]
theorem rev_ind {α : Type} {motive : List α → Prop} (h0 : motive []) (hs : ∀ l a, motive l → motive (l ++ [a])) (l : List α) : motive l := by
  have : ∀ n (l : List α), l.length = n → motive l := by
    intro n
    induction n with
    | zero => intro l hl; rw [List.length_eq_zero_iff.mp hl]; exact h0
    | succ n ih =>
      intro l hl
      have hne : l ≠ [] := fun z => by rw [z] at hl; simp at hl
      have e := List.dropLast_concat_getLast hne
      rw [← e]
      exact hs _ _ (ih _ (by rw [List.length_dropLast, hl]; rfl))
  exact this _ l rfl
def rootsF (f : Nat → Nat) (n : Nat) : List Nat := (List.range n).filter fun r => decide (f r = r)
def memF (f : Nat → Nat) (n r : Nat) : List Nat := (List.range n).filter fun k => decide (f k = r)
end L2.Px
set_option Elab.async false
set_option linter.all false
set_option maxRecDepth 100000
set_option maxHeartbeats 2000000
namespace L2.Px
open PySem PySem.Spec PyProof.Rows StX TL
end L2.Px
set_option Elab.async false
set_option linter.all false
set_option maxRecDepth 100000
set_option maxHeartbeats 2000000
namespace L2.Px
open PySem PySem.Spec PyProof.Rows StX TL
end L2.Px
set_option Elab.async false
set_option linter.all false
set_option maxRecDepth 100000
set_option maxHeartbeats 2000000
namespace L2.Px
open PySem PySem.Spec PyProof.Rows StX TL
section
variable {X : Cx} {K : PySem.W.Frag}
theorem sortIK (hk : X.K = K) : CallR X (.builtin "sorted") (rSortedI K) := hk ▸ cr_sortedI
end
def tieFs (x : Str) (h : Addr) : List (Str × V) := putF "heads" (.ref h) (putF "letters" (.str x) [])
theorem tieFs_no {x m : Str} {h : Addr} (z : m ≠ "heads" ∧ m ≠ "letters") : (tieFs x h).lookup m = none := by
  unfold tieFs; rw [lookup_putF, if_neg z.1, lookup_putF, if_neg z.2]; rfl
/-- the ties at t of the keys with letters L: f leads to the roots -/
structure TieA (CI : Addr) (H : Hp) (t dx h : Addr) (L hs : List Nat) (f : Nat → Nat) : Prop where
  ins : H t = some (.ins CI dx (tieFs (mkS L) h))
  lst : H h = some (.lst (natV hs))
  rt : Rt hs f
  len : hs.length = L.length
  ne : h ≠ t
section
variable {K : PySem.W.Frag} {CI CT CP : Addr} {H H' H1 : Hp} {t dx h l r p : Addr} {L hs hs' M A B : List Nat} {f f' : Nat → Nat} {Q : VK} {E : XK} {cs : List (List Nat)} {i j : Int} {ss tt : List Stp} {a b : Addr}
theorem TieA.mono (z : TieA CI H t dx h L hs f) (S : Same H H') : TieA CI H' t dx h L hs f := ⟨S _ _ z.ins, S _ _ z.lst, z.rt, z.len, z.ne⟩
theorem TieA.next (z : TieA CI H t dx h L hs f) (B : But h H H') (e : H' h = some (.lst (natV hs'))) (r : Rt hs' f') (n : hs'.length = hs.length) : TieA CI H' t dx h L hs' f' := ⟨B _ _ (Ne.symm z.ne) z.ins, e, r, by rw [n, z.len], z.ne⟩
theorem TieA.insM {m : Str} (z : TieA CI H t dx h L hs f) (hm : m ≠ "heads" ∧ m ≠ "letters" := by decide +kernel) : InsM H t CI m := ⟨dx, _, z.ins, tieFs_no hm⟩
/-- the list at l holds the lists cs -/
def ClsAt (H : Hp) (l : Addr) (cs : List (List Nat)) : Prop := ∃ as : List Addr, H l = some (.lst (as.map V.ref)) ∧ as.length = cs.length ∧ ∀ (i : Nat) c, cs[i]? = some c → ∃ a, as[i]? = some a ∧ H a = some (.lst (natV c))
theorem ClsAt.mono (z : ClsAt H l cs) (S : Same H H') : ClsAt H' l cs := let ⟨as, e, n, g⟩ := z; ⟨as, S _ _ e, n, fun i c hc => let ⟨a, x, y⟩ := g i c hc; ⟨a, x, S _ _ y⟩⟩
variable (K CI CT CP)
variable {K CI CT CP}
end
end L2.Px
set_option Elab.async false
set_option linter.all false
set_option maxRecDepth 100000
set_option maxHeartbeats 1000000
namespace L2.Px
open PySem PySem.Spec PyProof.Rows StX TL
def kvR (rs : List Nat) (cl : Nat → Addr) : List (Key × V) := rs.map fun (r : Nat) => ((Sum.inl (r : Int) : Key), V.ref (cl r))
/-- the first i keys are gathered in the dict at D; cl tells the lists -/
structure ClsW (f : Nat → Nat) (H H' : Hp) (D : Addr) (i : Nat) (cl : Nat → Addr) : Prop where
  same : Same H H'
  dict : H' D = some (.dK (kvR (rootsF f i) cl))
  cls : ∀ r ∈ rootsF f i, H (cl r) = none ∧ cl r ≠ D ∧ H' (cl r) = some (.lst (natV (memF f i r)))
  inj : ∀ r r', r ∈ rootsF f i → r' ∈ rootsF f i → cl r = cl r' → r = r'
section
variable {f : Nat → Nat} {H H' H1 : Hp} {D p : Addr} {i : Nat} {cl : Nat → Addr}
theorem ClsW.mono (w : ClsW f H H' D i cl) (S : Same H' H1) : ClsW f H H1 D i cl := ⟨w.same.trans S, S _ _ w.dict, fun r hr => let ⟨a, b, c⟩ := w.cls r hr; ⟨a, b, S _ _ c⟩, w.inj⟩
end
end L2.Px
set_option Elab.async false
set_option linter.all false
set_option maxRecDepth 100000
set_option maxHeartbeats 1000000
namespace L2.Px
open PySem PySem.Spec PyProof.Rows StX TL
section
variable {J : It} {n : Nat} {it : Nat → V} {H1 : Hp} {tt : TT} {te : TE} {vs : List Nat} {σ : St} {D : Addr} {Qd : Hp → Prop} {j : Nat}
/-- ys answers the numbers is, one by one -/
def Ans (Rl : Nat → V → Hp → Prop) (H : Hp) (is : List Nat) (ys : List V) : Prop := ys.length = is.length ∧ ∀ (k i : Nat), is[k]? = some i → ∃ y, ys[k]? = some y ∧ Rl i y H
theorem Ans.snoc {Rl : Nat → V → Hp → Prop} {H H' : Hp} {is : List Nat} {ys : List V} (a : Ans Rl H is ys) {i : Nat} {y : V} (m : ∀ i y, Rl i y H → Rl i y H') (r : Rl i y H') : Ans Rl H' (is ++ [i]) (ys ++ [y]) := by
  refine ⟨by simp [a.1], fun k x hk => ?_⟩
  by_cases h : k < is.length
  · rw [List.getElem?_append_left h] at hk
    obtain ⟨z, h1, h2⟩ := a.2 k x hk
    exact ⟨z, by rw [List.getElem?_append_left (by rw [a.1]; exact h)]; exact h1, m _ _ h2⟩
  · have hl : k < (is ++ [i]).length := (List.getElem?_eq_some_iff.mp hk).1
    have hk0 : k = is.length := by simp at hl; omega
    subst hk0
    rw [List.getElem?_append_right (Nat.le_refl _), Nat.sub_self] at hk
    cases hk
    exact ⟨y, by rw [List.getElem?_append_right (by rw [a.1]; exact Nat.le_refl _), a.1, Nat.sub_self]; rfl, r⟩
theorem Ans.mono {Rl : Nat → V → Hp → Prop} {H H' : Hp} {is : List Nat} {ys : List V} (a : Ans Rl H is ys) (m : ∀ i y, Rl i y H → Rl i y H') : Ans Rl H' is ys := ⟨a.1, fun k i hk => let ⟨y, h1, h2⟩ := a.2 k i hk; ⟨y, h1, m _ _ h2⟩⟩
end
section
variable {K : PySem.W.Frag} {H H' : Hp} {l p F : Addr} {cs ds : List (Nat × Nat)} {n : Nat} {Q : VK}
theorem ChAt.but (h : ChAt K H l cs n) (B : But F H H') {xs : List V} (hF : H F = some (.lst xs)) (ne : l ≠ F) : ChAt K H' l cs n := by
  obtain ⟨xs, e, hl, hx⟩ := h
  exact ⟨xs, B _ _ ne e, hl, fun i c hc => let ⟨h1, h2, h3, T, h4, h5⟩ := hx i c hc; ⟨h1, h2, h3, T, h4, B _ _ (fun z => by subst z; rw [hF] at h5; cases h5) h5⟩⟩
end
end L2.Px
set_option Elab.async false
set_option linter.all false
set_option maxRecDepth 100000
set_option maxHeartbeats 2000000
namespace L2.Px
open PySem PySem.Spec PyProof.Rows StX TL
section
variable {K : PySem.W.Frag} {CI CT CP : Addr} {H H' H1 : Hp} {a b l r p : Addr} {L M : List Nat} {Q : VK} {E : XK} {cs ds : List (Nat × Nat)} {cl : List (List Nat)} {i j : Int} {ss tt : List Stp} {n c : Nat} {X : Cx}
theorem ClsAt.get (h : ClsAt H l cl) {i : Nat} {c : List Nat} (hc : cl[i]? = some c) : ∃ as : List Addr, H l = some (.lst (as.map V.ref)) := let ⟨as, e, _⟩ := h; ⟨as, e⟩
theorem ChAt.drop {xs : List V} (h : ChAt K H l cs n) (hx : H l = some (.lst xs)) (j : Nat) (e : H p = some (.lst (xs.drop j))) : ChAt K H p (cs.drop j) n := by
  obtain ⟨xs', ex, hl, hc⟩ := h
  rw [hx] at ex
  cases ex
  exact ⟨_, e, by rw [List.length_drop, List.length_drop, hl], fun i c hi => by rw [List.getElem?_drop] at hi ⊢; exact hc _ c hi⟩
variable (K CT CP)
variable {K CT CP}
end
end L2.Px
set_option Elab.async false
set_option linter.all false
set_option maxRecDepth 100000
set_option maxHeartbeats 2000000
namespace L2.Px
open PySem PySem.Spec PyProof.Rows StX TL
end L2.Px
set_option Elab.async false
set_option linter.all false
set_option maxRecDepth 100000
set_option maxHeartbeats 1000000
namespace L2.Px
open PySem PySem.Spec PyProof.Rows StX TL ClX
/-- v as a step of a text of n places: b whether it is one -/
def StVal (K : PySem.W.Frag) (H : Hp) (n : Int) (v : V) (b : Bool) : Prop := (NoSeq v ∧ b = false) ∨ ∃ a xs, v = .ref a ∧ (∀ x ∈ xs, NoSeq x ∧ ∀ z, x = .str z → z.length ≤ sizeLine) ∧ ((SqT K H a xs ∧ b = isSt n xs) ∨ (SqL K H a xs ∧ b = false))
/-- the values rs are no steps of a text -/
def Rej (K : PySem.W.Frag) (CIS CTL : Addr) (E : XK) (H : Hp) (rs : List V) : Prop := ∃ (ss : List Stp) (v : V), StepsAt K H (rs.take ss.length) ss ∧ okFrom 0 ss ∧ rs[ss.length]? = some v ∧ ss.length ≤ 30 ∧
  (((ss.length = 30 ∨ StVal K H (sz ss : Nat) v false) ∧ ∀ d H', Same H H' → H' d = some (.xd [("index", .int (ss.length : Nat))]) → E (.ref CIS) (some d) H') ∨
    ∃ s, StepAt K H v s ∧ okStep (sz ss) s ∧ ss.length < 30 ∧ 1000000000000000000 < sz ss + len1 s ∧ ∀ H', Same H H' → E (.ref CTL) none H')
section
variable {K : PySem.W.Frag} {CIS CTL CT CP : Addr} {E : XK} {H H' : Hp} {rs : List V} {v : V} {n : Int} {b : Bool} {Q : VK}
theorem StVal.mono (e : Same H H') (h : StVal K H n v b) : StVal K H' n v b := by
  rcases h with h | ⟨a, xs, ev, hx, h | h⟩
  · exact .inl h
  · exact .inr ⟨a, xs, ev, hx, .inl ⟨Same.tup e h.1, h.2⟩⟩
  · exact .inr ⟨a, xs, ev, hx, .inr ⟨e.seq h.1, h.2⟩⟩
theorem Rej.mono (e : Same H H') (h : Rej K CIS CTL E H rs) : Rej K CIS CTL E H' rs := by
  obtain ⟨ss, v, h1, h2, h3, h4, h5⟩ := h
  refine ⟨ss, v, h1.mono e, h2, h3, h4, ?_⟩
  rcases h5 with ⟨h5, h6⟩ | ⟨s, a1, a2, a3, a4, a5⟩
  · exact .inl ⟨h5.imp id (·.mono e), fun d H'' S hd => h6 d H'' (e.trans S) hd⟩
  · exact .inr ⟨s, a1.mono e, a2, a3, a4, fun H'' S => a5 H'' (e.trans S)⟩
end
theorem StepAt.val {K : PySem.W.Frag} {H : Hp} {v : V} {s : Stp} {n : Nat} (h : StepAt K H v s) (ok : okStep n s) : StVal K H (n : Nat) v true := by
  obtain ⟨a, rfl, hq⟩ := h
  refine .inr ⟨a, stV s, rfl, fun x hx => ⟨stV_noseq s x hx, fun z hz => ?_⟩, .inl ⟨hq, ?_⟩⟩
  · subst hz
    cases s with
    | wr w =>
      simp only [stV, List.mem_cons, List.not_mem_nil, or_false, V.str.injEq] at hx
      rcases hx with rfl | rfl
      · rw [sizeLine_eq]; decide
      · exact str_small ok.2.1
    | pa f l t =>
      simp only [stV, List.mem_cons, List.not_mem_nil, or_false, V.str.injEq, reduceCtorEq] at hx
      subst hx
      rw [sizeLine_eq]; decide
  · cases s with
    | wr w =>
      have e : isWd (.str w) = true := decide_eq_true (by rw [← len_tl]; exact ok)
      simp [stV, isSt, e]
    | pa f l t =>
      obtain ⟨o1, o2, o3, o4⟩ := ok
      have e1 : isInt 0 ((n : Int) - 1) (.int l) = true := decide_eq_true (by omega)
      have e2 : isInt 0 (l : Int) (.int f) = true := decide_eq_true (by omega)
      have e3 : isInt 1 1000000000 (.int t) = true := decide_eq_true (by omega)
      simp [stV, isSt, e1, e2, e3, intOf]
end L2.Px
set_option Elab.async false
set_option linter.all false
set_option maxRecDepth 100000
set_option maxHeartbeats 1000000
namespace L2.Px
open PySem PySem.Spec PyProof.Rows StX TL ClX LamX
section
variable {K : PySem.W.Frag} {CT CP : Addr} {H H' H1 : Hp} {Q : VK} {E : XK} {a b r p q : Addr} {ss tt : List Stp} {i j : Int} {v : V} {o : HO} {xs : List V} {L : List Nat} {T : List (Addr × Str)}
theorem Kl.at_ (e : Kl T H H') (n : ¬ isRow o) (m : ∀ ps, o ≠ .tbl ps) (h : H a = some o) : H' a = some o := e.keep a o n m h
theorem StepAt.kl {s : Stp} (h : StepAt K H v s) (e : Kl T H H') : StepAt K H' v s := let ⟨a, ev, q⟩ := h; ⟨a, ev, e.tup q⟩
theorem StepsAt.kl {ms : List V} (h : StepsAt K H ms ss) (e : Kl T H H') : StepsAt K H' ms ss := ⟨h.1, fun j s q => let ⟨v, a, b⟩ := h.2 j s q; ⟨v, a, b.kl e⟩⟩
theorem PartAt.kl {n y : Nat} {s : Stp} (h : PartAt CP H v n y s) (e : Kl T H H') : PartAt CP H' v n y s := by
  cases s with
  | wr w => obtain ⟨p, dx, ev, q⟩ := h; exact ⟨p, dx, ev, e.keep _ _ nr_ins (fun _ z => nomatch z) q⟩
  | pa f l t => obtain ⟨p, dx, ev, q⟩ := h; exact ⟨p, dx, ev, e.keep _ _ nr_ins (fun _ z => nomatch z) q⟩
theorem PartsAt.kl {ps : List V} (h : PartsAt CP H ps ss) (e : Kl T H H') : PartsAt CP H' ps ss := ⟨h.1, fun j s q => let ⟨v, a, b⟩ := h.2 j s q; ⟨v, a, b.kl e⟩⟩
theorem TextAt.kl {t : TxI} (h : TextAt K CT CP H a t) (e : Kl T H H') : TextAt K CT CP H' a t :=
  ⟨e.keep _ _ nr_ins (fun _ z => nomatch z) h.ins, e.tup h.made, h.stp.kl e, e.keep _ _ (nr_refs h.prt.refs) (fun _ z => nomatch z) h.pls, h.prt.kl e, h.ok, h.few⟩
theorem TX.kl (h : TX K CT CP H a ss) (e : Kl T H H') : TX K CT CP H' a ss := let ⟨t, x, y⟩ := h; ⟨t, x.kl e, y⟩
theorem TS'.kl (h : TS' K H a ss) (e : Kl T H H') : TS' K H' a ss := let ⟨ms, x, y⟩ := h; ⟨ms, e.tup x, y.kl e⟩
theorem SX.kl (h : SX K H a ss) (e : Kl T H H') : SX K H' a ss := let ⟨ms, x, y⟩ := h; ⟨ms, x.imp (e.tup ·) (e.keep _ _ (nr_refs y.refs) (fun _ z => nomatch z) ·), y.kl e⟩
variable {CIP CIK CIL CIN CTL CIS : Addr}
end
end L2.Px
set_option Elab.async false
set_option linter.all false
set_option maxRecDepth 100000
set_option maxHeartbeats 1000000
namespace L2.Px
open PySem PySem.Spec PyProof.Rows StX TL ClX LamX
structure Km (C : Addr) (T : List (Addr × Str)) (H H' : Hp) : Prop where
  keep : ∀ b o, ¬ isRow o → (∀ ps, o ≠ .tbl ps) → (∀ dx fs, o ≠ .ins C dx fs) → H b = some o → H' b = some o
  rows : ∀ (b sa : Addr) (i s e : Int), H b = some (.lst [.ref sa, .int i, .int s, .int e]) → ∃ i' s' e' : Int, H' b = some (.lst [.ref sa, .int i', .int s', .int e'])
  tabs : Tabs T H → Tabs T H'
section
variable {K : PySem.W.Frag} {CT CP C : Addr} {T : List (Addr × Str)} {H H' H1 : Hp} {a e l : Addr} {o : HO} {v : V} {xs ms ps : List V} {s : Stp} {ss : List Stp} {t : TxI} {L : List Nat} {n y : Nat}
theorem Km.refl : Km C T H H := ⟨fun _ _ _ _ _ h => h, fun _ _ _ _ _ h => ⟨_, _, _, h⟩, id⟩
theorem Km.trans (a : Km C T H H1) (b : Km C T H1 H') : Km C T H H' := ⟨fun c o hc hn hi h => b.keep c o hc hn hi (a.keep c o hc hn hi h), fun c sa i s e h => let ⟨i', s', e', h'⟩ := a.rows c sa i s e h; b.rows c sa i' s' e' h', fun t => b.tabs (a.tabs t)⟩
theorem Km.kl (e : Kl T H H') : Km C T H H' := ⟨fun b o hr ht _ h => e.keep b o hr ht h, e.rows, e.tabs⟩
theorem Km.same (e : Same H H') : Km C T H H' := .kl (.same e)
theorem Km.kp (e : Kp H H') : Km C T H H' := .kl (.kp e)
theorem But.ins {x : Addr} (e : But x H H') {dx : Addr} {fs : List (Str × V)} (hx : H x = some (.ins C dx fs)) (hn : ∀ dx fs, o ≠ .ins C dx fs) (h : H a = some o) : H' a = some o :=
  e a o (fun z => hn dx fs (by subst z; rw [hx] at h; exact (Option.some.inj h).symm)) h
theorem Km.but {x dx : Addr} {fs : List (Str × V)} (e : But x H H') (hx : H x = some (.ins C dx fs)) : Km C T H H' := by
  refine .mk (fun b o _ _ hi h => ?a) (fun b sa i s n h => ?b) (fun t p hp => ?_)
  · exact e.ins hx hi h
  · exact ⟨_, _, _, e.ins hx (fun _ _ z => nomatch z) h⟩
  obtain ⟨ps, h1, h2, h3⟩ := t p hp
  refine ⟨ps, e.ins hx (fun _ _ z => nomatch z) h1, h2, fun pos cv hc => ?_⟩
  obtain ⟨c, h4, h5⟩ := h3 pos cv hc
  exact ⟨c, h4, e.ins hx (fun _ _ z => nomatch z) h5⟩
theorem Km.tup (e : Km C T H H') (h : SqT K H a xs) : SqT K H' a xs := by
  rcases h with (h | ⟨o, h⟩) | h
  · exact .inl (.inl (e.keep _ _ nr_tup (fun ps z => nomatch z) (fun _ _ z => nomatch z) h))
  · exact .inl (.inr ⟨o, e.keep _ _ nr_frz (fun ps z => nomatch z) (fun _ _ z => nomatch z) h⟩)
  · exact .inr h
theorem Km.lst (e : Km C T H H') (n : ¬ isRow (.lst xs)) (h : SqL K H a xs) : SqL K H' a xs := by
  rcases h with (h | ⟨o, h⟩) | h
  · exact .inl (.inl (e.keep _ _ n (fun ps z => nomatch z) (fun _ _ z => nomatch z) h))
  · exact .inl (.inr ⟨o, e.keep _ _ nr_frz (fun ps z => nomatch z) (fun _ _ z => nomatch z) h⟩)
  · exact .inr h
theorem Km.li (e : Km C T H H') (n : ¬ isRow (.lst xs)) (h : H a = some (.lst xs)) : H' a = some (.lst xs) := e.keep _ _ n (fun _ z => nomatch z) (fun _ _ z => nomatch z) h
theorem Km.tu (e : Km C T H H') (h : H a = some (.tup xs)) : H' a = some (.tup xs) := e.keep _ _ nr_tup (fun _ z => nomatch z) (fun _ _ z => nomatch z) h
theorem StepAt.km (h : StepAt K H v s) (e : Km C T H H') : StepAt K H' v s := let ⟨a, ev, q⟩ := h; ⟨a, ev, e.tup q⟩
theorem StepsAt.km (h : StepsAt K H ms ss) (e : Km C T H H') : StepsAt K H' ms ss := ⟨h.1, fun j s q => let ⟨v, a, b⟩ := h.2 j s q; ⟨v, a, b.km e⟩⟩
theorem ins_ne {D dx : Addr} {fs : List (Str × V)} (hn : D ≠ C) : ∀ dx' fs', HO.ins D dx fs ≠ .ins C dx' fs' := fun dx' fs' z => hn (by cases z; rfl)
theorem PartAt.km (hn : CP ≠ C) (h : PartAt CP H v n y s) (e : Km C T H H') : PartAt CP H' v n y s := by
  cases s with
  | wr w => obtain ⟨p, dx, ev, q⟩ := h; exact ⟨p, dx, ev, e.keep _ _ nr_ins (fun _ z => nomatch z) (ins_ne hn) q⟩
  | pa f l t => obtain ⟨p, dx, ev, q⟩ := h; exact ⟨p, dx, ev, e.keep _ _ nr_ins (fun _ z => nomatch z) (ins_ne hn) q⟩
theorem PartsAt.km (hn : CP ≠ C) (h : PartsAt CP H ps ss) (e : Km C T H H') : PartsAt CP H' ps ss := ⟨h.1, fun j s q => let ⟨v, a, b⟩ := h.2 j s q; ⟨v, a, b.km hn e⟩⟩
theorem TextAt.km (hT : CT ≠ C) (hP : CP ≠ C) (h : TextAt K CT CP H a t) (e : Km C T H H') : TextAt K CT CP H' a t :=
  ⟨e.keep _ _ nr_ins (fun _ z => nomatch z) (ins_ne hT) h.ins, e.tup h.made, h.stp.km e, e.keep _ _ (nr_refs h.prt.refs) (fun _ z => nomatch z) (fun _ _ z => nomatch z) h.pls, h.prt.km hP e, h.ok, h.few⟩
theorem TX.km (h : TX K CT CP H a ss) (hT : CT ≠ C) (hP : CP ≠ C) (e : Km C T H H') : TX K CT CP H' a ss := let ⟨t, x, y⟩ := h; ⟨t, x.km hT hP e, y⟩
theorem TS'.km (h : TS' K H a ss) (e : Km C T H H') : TS' K H' a ss := let ⟨ms, x, y⟩ := h; ⟨ms, e.tup x, y.km e⟩
theorem SX.km (h : SX K H a ss) (e : Km C T H H') : SX K H' a ss := let ⟨ms, x, y⟩ := h; ⟨ms, x.imp (e.tup ·) (e.keep _ _ (nr_refs y.refs) (fun _ z => nomatch z) (fun _ _ z => nomatch z) ·), y.km e⟩
theorem But.seqL {x dx : Addr} {fs : List (Str × V)} (e : But x H H') (hx : H x = some (.ins C dx fs)) (h : SqL K H a xs) : SqL K H' a xs := by
  rcases h with (h | ⟨o, h⟩) | h
  · exact .inl (.inl (e.ins hx (fun _ _ z => nomatch z) h))
  · exact .inl (.inr ⟨o, e.ins hx (fun _ _ z => nomatch z) h⟩)
  · exact .inr h
theorem RowAt.but {x dx r : Addr} {fs : List (Str × V)} (h : RowAt K H r) (e : But x H H') (hx : H x = some (.ins C dx fs)) : RowAt K H' r :=
  let ⟨sa, sc, i, s, n, a, b⟩ := h.ex; ⟨sa, sc, i, s, n, e.ins hx (fun _ _ z => nomatch z) a, e.seqL hx b⟩
end
inductive Op where
  | st (s : Stp)
  | re (p c : Nat)
deriving DecidableEq
def opV : Op → List V
  | .st s => stV s
  | .re p c => [.str "retype", .int (p : Nat), .str ⟨#[c]⟩]
def OpAt (K : PySem.W.Frag) (H : Hp) (v : V) (o : Op) : Prop := ∃ a, v = .ref a ∧ SqT K H a (opV o)
/-- the text after an operation -/
def aft (ss : List Stp) : Op → List Stp
  | .st s => ss ++ [s]
  | .re p c => rt (kat ss p) c 0 ss
/-- what an operation answers -/
def opN (ss : List Stp) : Op → Nat
  | .st s => sz (ss ++ [s])
  | .re p c => if lat ss (kat ss p) = c then 0 else cn ss (sz ss) (kat ss p)
def okOp (ss : List Stp) : Op → Prop
  | .st s => okStep (sz ss) s ∧ ss.length < 30 ∧ sz ss + len1 s ≤ 1000000000000000000
  | .re p c => p < sz ss ∧ 97 ≤ c ∧ c ≤ 122
/-- an entry of an editor: the operation, the texts before and after -/
structure Ent where
  o : Op
  b : List Stp
  a : List Stp
def EntAt (K : PySem.W.Frag) (CT CP : Addr) (H : Hp) (v : V) (e : Ent) : Prop := ∃ t o b a, v = .ref t ∧ SqT K H t [o, .ref b, .ref a] ∧ OpAt K H o e.o ∧ TX K CT CP H b e.b ∧ TX K CT CP H a e.a
def EntsAt (K : PySem.W.Frag) (CT CP : Addr) (H : Hp) (ms : List V) (es : List Ent) : Prop := ms.length = es.length ∧ ∀ (j : Nat) e, es[j]? = some e → ∃ v, ms[j]? = some v ∧ EntAt K CT CP H v e
/-- an editor's fields -/
def edF (p d u kp kd ku : V) : List (Str × V) := [("present", p), ("done", d), ("undone", u), ("is_open", .bl false), ("kept_present", kp), ("kept_done", kd), ("kept_undone", ku)]
section
variable {p d u kp kd ku v : V} {f : Str}
theorem putF_hit {g : Str} {v x : V} {r : List (Str × V)} : putF g v ((g, x) :: r) = (g, v) :: r := if_pos rfl
theorem putF_nil {g : Str} {v : V} : putF g v [] = [(g, v)] := rfl
theorem putF_miss {f g : Str} {v x : V} {r : List (Str × V)} (h : g ≠ f) : putF f v ((g, x) :: r) = (g, x) :: putF f v r := if_neg h
theorem edF_no (h : f ≠ "present" ∧ f ≠ "done" ∧ f ≠ "undone" ∧ f ≠ "is_open" ∧ f ≠ "kept_present" ∧ f ≠ "kept_done" ∧ f ≠ "kept_undone") : (edF p d u kp kd ku).lookup f = none := by
  unfold edF
  simp only [List.lookup_cons, beq_false_of_ne h.1, beq_false_of_ne h.2.1, beq_false_of_ne h.2.2.1, beq_false_of_ne h.2.2.2.1, beq_false_of_ne h.2.2.2.2.1, beq_false_of_ne h.2.2.2.2.2.1, beq_false_of_ne h.2.2.2.2.2.2, List.lookup_nil]
end
/-- an editor: its text, what is done and what is undone -/
structure EdI where
  dx : Addr
  p : Addr
  d : Addr
  u : Addr
  kp : V
  kd : V
  ku : V
  dm : List V
  um : List V
  ss : List Stp
  ds : List Ent
  us : List Ent
structure EdAtI (K : PySem.W.Frag) (CT CP CE : Addr) (H : Hp) (e : Addr) (i : EdI) : Prop where
  ins : H e = some (.ins CE i.dx (edF (.ref i.p) (.ref i.d) (.ref i.u) i.kp i.kd i.ku))
  tx : TX K CT CP H i.p i.ss
  dn : SqT K H i.d i.dm
  de : EntsAt K CT CP H i.dm i.ds
  un : SqT K H i.u i.um
  ue : EntsAt K CT CP H i.um i.us
def EdAt (K : PySem.W.Frag) (CT CP CE : Addr) (H : Hp) (e : Addr) (ss : List Stp) (ds us : List Ent) : Prop := ∃ i, EdAtI K CT CP CE H e i ∧ i.ss = ss ∧ i.ds = ds ∧ i.us = us
section
variable {K : PySem.W.Frag} {CT CP CE C : Addr} {T : List (Addr × Str)} {H H' : Hp} {a e x : Addr} {v : V} {o : Op} {en : Ent} {es ds us : List Ent} {ms : List V} {ss : List Stp} {i : EdI}
theorem OpAt.km (h : OpAt K H v o) (k : Km C T H H') : OpAt K H' v o := let ⟨a, ev, q⟩ := h; ⟨a, ev, k.tup q⟩
theorem EntAt.km (hT : CT ≠ C) (hP : CP ≠ C) (h : EntAt K CT CP H v en) (k : Km C T H H') : EntAt K CT CP H' v en := let ⟨t, o, b, a, ev, q, h1, h2, h3⟩ := h; ⟨t, o, b, a, ev, k.tup q, h1.km k, h2.km hT hP k, h3.km hT hP k⟩
theorem EntsAt.km (hT : CT ≠ C) (hP : CP ≠ C) (h : EntsAt K CT CP H ms es) (k : Km C T H H') : EntsAt K CT CP H' ms es := ⟨h.1, fun j s q => let ⟨v, a, b⟩ := h.2 j s q; ⟨v, a, b.km hT hP k⟩⟩
theorem EntsAt.nil : EntsAt K CT CP H [] [] := ⟨rfl, fun _ _ h => by simp at h⟩
theorem EntsAt.snoc (h : EntsAt K CT CP H ms es) (g : EntAt K CT CP H v en) : EntsAt K CT CP H (ms ++ [v]) (es ++ [en]) := by
  refine ⟨by simp [h.1], fun j s hj => ?_⟩
  rcases Nat.lt_or_ge j es.length with z | z
  · rw [List.getElem?_append_left z] at hj
    obtain ⟨v', a, b⟩ := h.2 j s hj
    exact ⟨v', by rw [List.getElem?_append_left (by rw [h.1]; exact z)]; exact a, b⟩
  · have e : j = es.length := by
      have := (List.getElem?_eq_some_iff.mp hj).1
      rw [List.length_append, List.length_singleton] at this; omega
    subst e
    rw [List.getElem?_append_right (Nat.le_refl _), Nat.sub_self] at hj
    cases hj
    exact ⟨v, by rw [← h.1, List.getElem?_append_right (Nat.le_refl _), Nat.sub_self]; rfl, g⟩
theorem EdAtI.same (h : EdAtI K CT CP CE H e i) (k : Same H H') : EdAtI K CT CP CE H' e i := by
  refine ⟨k _ _ h.ins, h.tx.kp (.same k), (Same.tup k h.dn), ⟨h.de.1, fun j s q => ?_⟩, (Same.tup k h.un), ⟨h.ue.1, fun j s q => ?_⟩⟩
  · obtain ⟨v, a, t, o, b, c, ev, z, ⟨oa, h0, h1⟩, h2, h3⟩ := h.de.2 j s q
    exact ⟨v, a, t, o, b, c, ev, (Same.tup k z), ⟨oa, h0, (Same.tup k h1)⟩, h2.kp (.same k), h3.kp (.same k)⟩
  · obtain ⟨v, a, t, o, b, c, ev, z, ⟨oa, h0, h1⟩, h2, h3⟩ := h.ue.2 j s q
    exact ⟨v, a, t, o, b, c, ev, (Same.tup k z), ⟨oa, h0, (Same.tup k h1)⟩, h2.kp (.same k), h3.kp (.same k)⟩
theorem EdAt.same (h : EdAt K CT CP CE H e ss ds us) (k : Same H H') : EdAt K CT CP CE H' e ss ds us := let ⟨i, a, b⟩ := h; ⟨i, a.same k, b⟩
/-- another editor changes -/
theorem EdAtI.km (hT : CT ≠ CE) (hP : CP ≠ CE) (h : EdAtI K CT CP CE H e i) (k : Km CE T H H') (hi : H' e = H e) : EdAtI K CT CP CE H' e i :=
  ⟨hi.trans h.ins, h.tx.km hT hP k, k.tup h.dn, h.de.km hT hP k, k.tup h.un, h.ue.km hT hP k⟩
theorem EdAt.km (hT : CT ≠ CE) (hP : CP ≠ CE) (h : EdAt K CT CP CE H e ss ds us) (k : Km CE T H H') (hi : H' e = H e) : EdAt K CT CP CE H' e ss ds us := let ⟨i, a, b⟩ := h; ⟨i, a.km hT hP k hi, b⟩
theorem EdAt.kl (hT : CT ≠ CE) (hP : CP ≠ CE) (h : EdAt K CT CP CE H e ss ds us) (k : Kl T H H') : EdAt K CT CP CE H' e ss ds us := by
  obtain ⟨i, a, b⟩ := h
  exact ⟨i, a.km hT hP (.kl k) ((k.keep _ _ nr_ins (fun _ z => nomatch z) a.ins).trans a.ins.symm), b⟩
theorem EdAt.kp (hT : CT ≠ CE) (hP : CP ≠ CE) (h : EdAt K CT CP CE H e ss ds us) (k : Kp H H') : EdAt K CT CP CE H' e ss ds us := h.kl (T := []) hT hP (.kp k)
theorem EdAt.but (hT : CT ≠ CE) (hP : CP ≠ CE) (h : EdAt K CT CP CE H e ss ds us) (k : But x H H') (hx : H x = some (.ins C (i.dx) (edF (.ref i.p) (.ref i.d) (.ref i.u) i.kp i.kd i.ku))) (hC : C = CE) (ne : e ≠ x) : EdAt K CT CP CE H' e ss ds us := by
  subst hC
  obtain ⟨j, a, b⟩ := h
  exact ⟨j, a.km hT hP (Km.but (T := []) k hx) ((k _ _ ne a.ins).trans a.ins.symm), b⟩
theorem EdAt.insA (h : EdAt K CT CP CE H e ss ds us) : InsA H e CE := let ⟨_, a, _⟩ := h; ⟨_, _, a.ins⟩
theorem EdAt.insM {m : Str} (h : EdAt K CT CP CE H e ss ds us) (hm : m ≠ "present" ∧ m ≠ "done" ∧ m ≠ "undone" ∧ m ≠ "is_open" ∧ m ≠ "kept_present" ∧ m ≠ "kept_done" ∧ m ≠ "kept_undone" := by decide +kernel) : InsM H e CE m := let ⟨_, a, _⟩ := h; ⟨_, _, a.ins, edF_no hm⟩
end
section
variable (K : PySem.W.Frag) (CIS CTL CIP CIL CT CP CE : Addr)
/-- a step, its values xs, is added to the text of the editor e -/
def AddOut (H : Hp) (e : Addr) (ss : List Stp) (ds : List Ent) (xs : List V) (Q : VK) (E : XK) : Prop :=
  (∃ s, xs = stV s ∧ okStep (sz ss) s ∧ ss.length < 30 ∧ sz ss + len1 s ≤ 1000000000000000000 ∧ ∀ H', But e H H' → EdAt K CT CP CE H' e (ss ++ [s]) (ds ++ [⟨.st s, ss, ss ++ [s]⟩]) [] → Q (.int (sz (ss ++ [s]) : Nat)) H') ∨
  ((ss.length = 30 ∨ isSt (sz ss) xs = false) ∧ ∀ d H', Same H H' → H' d = some (.xd [("index", .int (ss.length : Nat))]) → E (.ref CIS) (some d) H') ∨
  (∃ s, xs = stV s ∧ okStep (sz ss) s ∧ ss.length < 30 ∧ 1000000000000000000 < sz ss + len1 s ∧ ∀ H', Same H H' → E (.ref CTL) none H')
def RetOut (H : Hp) (e : Addr) (ss : List Stp) (ds : List Ent) (p l : V) (Q : VK) (E : XK) : Prop :=
  (∃ i c : Nat, p = .int (i : Nat) ∧ l = .str ⟨#[c]⟩ ∧ i < sz ss ∧ 97 ≤ c ∧ c ≤ 122 ∧ ∀ H', But e H H' → EdAt K CT CP CE H' e (aft ss (.re i c)) (ds ++ [⟨.re i c, ss, aft ss (.re i c)⟩]) [] → Q (.int (opN ss (.re i c) : Nat)) H') ∨
  (isInt 0 ((sz ss : Int) - 1) p = false ∧ ∀ H', Same H H' → E (.ref CIP) none H') ∨
  (isInt 0 ((sz ss : Int) - 1) p = true ∧ isLet l = false ∧ ∀ H', Same H H' → E (.ref CIL) none H')
def OpsAt (K : PySem.W.Frag) (H : Hp) (ms : List V) (os : List Op) : Prop := ms.length = os.length ∧ ∀ (j : Nat) o, os[j]? = some o → ∃ v, ms[j]? = some v ∧ OpAt K H v o
/-- an operation of valid form is executed -/
def ExOut (H : Hp) (e : Addr) (ss : List Stp) (ds : List Ent) (xs : List V) (Q : VK) (E : XK) : Prop :=
  match xs with
  | [_, p, l] => RetOut K CIP CIL CT CP CE H e ss ds p l Q E
  | _ => AddOut K CIS CTL CT CP CE H e ss ds xs Q E
end
end L2.Px
set_option Elab.async false
set_option linter.all false
set_option maxRecDepth 100000
set_option maxHeartbeats 1000000
namespace L2.Px
open PySem PySem.Spec PyProof.Rows StX TL ClX LamX
end L2.Px
namespace L2.Px
open PySem PySem.Spec PyProof.Rows StX TL ClX LamX
end L2.Px
namespace L2.Px
open PySem PySem.Spec PyProof.Rows StX TL ClX LamX
end L2.Px
namespace L2.Px
open PySem PySem.Spec PyProof.Rows StX TL ClX LamX
end L2.Px
set_option Elab.async false
set_option linter.all false
set_option maxRecDepth 100000
set_option maxHeartbeats 1000000
namespace L2.Px
open PySem PySem.Spec PyProof.Rows StX TL ClX LamX
section
variable {K : PySem.W.Frag} {H H' : Hp} {Q : VK} {a p : Addr} {ss : List Stp} {ms xs : List V} {n : Int} {v : V}
theorem TS'.len (h : TS' K H a ss) (q : Q (.int (ss.length : Nat)) H) : rLenA K [.ref a] H Q := by
  obtain ⟨ms, h1, h2⟩ := h
  exact rd_len_tup h1 (by rw [h2.1]; exact q)
/-- a list of values that are no steps for n places -/
def BadL (K : PySem.W.Frag) (H : Hp) (n : Int) (bs : List V) : Prop := ∀ b ∈ bs, StVal K H n b false
theorem BadL.mono {bs : List V} (h : BadL K H n bs) (e : Same H H') : BadL K H' n bs := fun b hb => (h b hb).mono e
end
end L2.Px
set_option Elab.async false
set_option linter.all false
set_option maxRecDepth 100000
set_option maxHeartbeats 1000000
namespace L2.Px
open PySem PySem.Spec PyProof.Rows StX ClX LamX
end L2.Px
set_option Elab.async false
set_option linter.all false
set_option maxRecDepth 100000
set_option maxHeartbeats 1000000
namespace L2.Px
open PySem PySem.Spec PyProof.Rows StX TL ClX LamX
/-- v, w are no range of a text -/
def NoRng (ss : List Stp) (v w : V) : Prop := isInt 0 (sz ss : Nat) v = false ∨ ∃ i : Int, v = .int i ∧ isInt 0 (sz ss : Nat) v = true ∧ isInt (i - 1) ((sz ss : Nat) - 1) w = false
end L2.Px
set_option Elab.async false
set_option linter.all false
set_option maxRecDepth 100000
set_option maxHeartbeats 1000000
namespace L2.Px
open PySem PySem.Spec PyProof.Rows StX TL ClX LamX
/-- v is no change of a text of n keys -/
def isCh (n : Int) : List V → Bool
  | [x, y] => isInt 0 (n - 1) x && isLet y
  | _ => false
def BadCh (K : PySem.W.Frag) (H : Hp) (n : Int) (v : V) : Prop := NoSeq v ∨ ∃ a xs, v = .ref a ∧ (∀ x ∈ xs, NoSeq x ∧ ∀ z, x = .str z → z.length ≤ sizeLine) ∧ ((SqT K H a xs ∧ isCh n xs = false) ∨ SqL K H a xs)
section
variable {K : PySem.W.Frag} {H H' : Hp} {n : Int} {v : V}
theorem BadCh.mono (h : BadCh K H n v) (e : Same H H') : BadCh K H' n v := by
  rcases h with h | ⟨a, xs, ev, hx, h | h⟩
  · exact .inl h
  · exact .inr ⟨a, xs, ev, hx, .inl ⟨Same.tup e h.1, h.2⟩⟩
  · exact .inr ⟨a, xs, ev, hx, .inr (e.seq h)⟩
end
/-- alike, to a depth; None too -/
def AlX (K : PySem.W.Frag) (H : Hp) : Nat → V → V → Prop
  | 0, _, _ => False
  | n + 1, v, w => (∃ i, v = .int i ∧ w = .int i) ∨ (∃ x, v = .str x ∧ w = .str x ∧ x.length ≤ sizeLine) ∨ (v = .non ∧ w = .non) ∨ ∃ a b xs ys, v = .ref a ∧ w = .ref b ∧ (SqT K H a xs ∧ SqT K H b ys ∨ SqL K H a xs ∧ SqL K H b ys) ∧ xs.length = ys.length ∧ xs.length ≤ sizeLine ∧ ∀ (i : Nat) x y, xs[i]? = some x → ys[i]? = some y → AlX K H n x y
theorem AlX.mono {K : PySem.W.Frag} {H H' : Hp} (e : Same H H') : ∀ {n : Nat} {v w : V}, AlX K H n v w → AlX K H' n v w
  | 0, _, _, h => h.elim
  | n + 1, _, _, h => by
    rcases h with h | h | h | ⟨a, b, xs, ys, h1, h2, h3, h4, h5, h6⟩
    · exact .inl h
    · exact .inr (.inl h)
    · exact .inr (.inr (.inl h))
    · refine .inr (.inr (.inr ⟨a, b, xs, ys, h1, h2, ?_, h4, h5, fun i x y p q => AlX.mono e (h6 i x y p q)⟩))
      rcases h3 with ⟨p, q⟩ | ⟨p, q⟩
      · exact .inl ⟨Same.tup e p, Same.tup e q⟩
      · exact .inr ⟨e.seq p, e.seq q⟩
end L2.Px
namespace L2.Px
open PySem PySem.Spec PyProof.Rows StX TL ClX LamX
end L2.Px
namespace L2.Px
open PySem PySem.Spec PyProof.Rows StX TL ClX LamX
end L2.Px
namespace L2.Px
open PySem PySem.Spec PyProof.Rows StX TL ClX LamX
end L2.Px
namespace L2.Px
open PySem PySem.Spec PyProof.Rows StX TL ClX LamX
end L2.Px
namespace L2.Px
open PySem PySem.Spec PyProof.Rows StX TL ClX LamX
theorem ChAt.snoc {K : PySem.W.Frag} {H : Hp} {F p : Addr} {cs : List (Nat × Nat)} {n k c : Nat} {xs : List V} (h : ChAt K H F cs n) (hF : H F = some (.lst xs)) (c1 : k < n) (c2 : 97 ≤ c ∧ c ≤ 122) (hp : H p = some (.tup [.int (k : Nat), .str ⟨#[c]⟩])) :
    ChAt K (upd H F (.lst (xs ++ [.ref p]))) F (cs ++ [(k, c)]) n := by
  obtain ⟨xs', e, h1, h2⟩ := h
  rw [hF] at e
  cases e
  refine ⟨xs ++ [.ref p], upd_same, by simp [h1], fun i d hd => ?_⟩
  by_cases hi : i < cs.length
  · rw [List.getElem?_append_left hi] at hd
    obtain ⟨a1, a2, a3, T, b1, b2⟩ := h2 i d hd
    exact ⟨a1, a2, a3, T, by rw [List.getElem?_append_left (by omega)]; exact b1, by rw [upd_ne (fun z => by subst z; rw [hF] at b2; cases b2)]; exact b2⟩
  · have hi' : i = cs.length := by
      have := (List.getElem?_eq_some_iff.mp hd).1
      rw [List.length_append, List.length_singleton] at this
      omega
    subst hi'
    rw [List.getElem?_append_right (Nat.le_refl _), Nat.sub_self] at hd
    cases hd
    exact ⟨c1, c2.1, c2.2, p, by rw [← h1, List.getElem?_append_right (Nat.le_refl _), Nat.sub_self]; rfl, by rw [upd_ne (fun z => by subst z; rw [hF] at hp; cases hp)]; exact hp⟩
end L2.Px
namespace L2.Px
open PySem PySem.Spec PyProof.Rows StX TL ClX LamX
end L2.Px
namespace L2.Px
open PySem PySem.Spec PyProof.Rows StX TL ClX LamX
end L2.Px
set_option Elab.async false
set_option linter.all false
set_option maxRecDepth 100000
set_option maxHeartbeats 1000000
namespace L2.Px
open PySem PySem.Spec PyProof.Rows StX TL ClX LamX
section
variable {K : PySem.W.Frag} {CT CP : Addr} {H : Hp} {Q : VK} {E : XK} {a b : Addr} {ss tt : List Stp} {v w : V}
theorem rd_ifJ {c : Bool} {σ : St} {t u : TE} (J : V → Hp → Prop) (hj : ∀ v H', J v H' → Q v H') (h : ∀ R : VK, (∀ v H', J v H' → R v H') → if c = true then t σ H R else u σ H R) : if c = true then t σ H Q else u σ H Q := h Q hj
end
end L2.Px
namespace L2.Px
open PySem PySem.Spec PyProof.Rows StX TL ClX LamX
end L2.Px
namespace L2.Px
open PySem PySem.Spec PyProof.Rows StX TL ClX LamX
end L2.Px
set_option Elab.async false
set_option linter.all false
set_option maxRecDepth 100000
set_option maxHeartbeats 2000000
namespace L2.Px
open PySem PySem.Spec PyProof.Rows PySem.Calls PySem.W
end L2.Px
set_option Elab.async false
set_option linter.all false
set_option maxRecDepth 100000
set_option maxHeartbeats 2000000
namespace L2.Px
open PySem PySem.Spec PyProof.Rows StX ClX
/-- the promise, nothing being raised -/
def nox (sp : Sp) : Sp := fun vs H Q _ => sp vs H Q NoX
section
variable {P : Program} {w : World} {K : PySem.W.Frag} {mg : Str → Option Value} {base : Heap} {CX : CXT} {k i j : Nat} {f C : Addr} {sp sp' : Sp} {x m : Str} {R : Addr → Prop}
theorem KOk.mono (G : KOk P w K mg base CX j C sp) (h : j ≤ k) : KOk P w K mg base CX k C sp := let ⟨f, F, a⟩ := G; ⟨f, F.mono h, a⟩
theorem KOk.or (F : KOk P w K mg base CX0 i C sp) (G : KOk P w K mg base CX j C sp') (hi : i ≤ k) (hj : j ≤ k) : KOk P w K mg base CX k C (fun vs H Q E => sp vs H Q E ∨ sp' vs H Q E) := by
  obtain ⟨f, a1, a2⟩ := F.mono hi
  obtain ⟨g, b1, b2⟩ := G.mono hj
  have e := a2.init.symm.trans b2.init
  simp only [Option.some.injEq, Value.ref.injEq] at e
  subst e
  exact ⟨f, fnR_or (fnR_up a1) b1, a2⟩
theorem OOk.or (F : OOk P w K mg base CX0 i C sp) (G : OOk P w K mg base CX j C sp') (hi : i ≤ k) (hj : j ≤ k) : OOk P w K mg base CX k C (fun vs H Q E => sp vs H Q E ∨ sp' vs H Q E) := by
  obtain ⟨f, a1, a2⟩ := F
  obtain ⟨g, b1, b2⟩ := G
  have e := a2.at_.symm.trans b2.at_
  simp only [Option.some.injEq, Value.ref.injEq] at e
  subst e
  exact ⟨f, fnR_or (fnR_up (a1.mono hi)) (b1.mono hj), a2⟩
end
def DefB (K : PySem.W.Frag) (C : Addr) (m qual : Str) (st : Stmt) (ps : List Str) : Prop := ∃ f fd, Fun K m qual st f fd ∧ BMeth K C m f ∧ Binds K fd ps []
def BOk (P : Program) (w : World) (K : PySem.W.Frag) (mg : Str → Option Value) (base : Heap) (CX : CXT) (k : Nat) (C : Addr) (m : Str) (sp : Sp) : Prop := ∃ f, FnR P w K mg base CX k f sp ∧ BMeth K C m f
/-- m(self, .., *v) -/
def DefBS (K : PySem.W.Frag) (C : Addr) (m qual : Str) (st : Stmt) (ps : List Str) (pv : Str) : Prop := ∃ f fd, Fun K m qual st f fd ∧ BMeth K C m f ∧
  ∀ us rest : List Value, us.length = ps.length → bindArgs fd ⟨us ++ rest, []⟩ = (newTuple rest >>= fun t => pure (ps.zip us ++ [(pv, t)]))
section
variable {P : Program} {w : World} {K : PySem.W.Frag} {mg : Str → Option Value} {base : Heap} {CX : CXT} {k : Nat} {C : Addr} {ps : List Str} {sp : Sp} {m qual : Str} {st : Stmt}
theorem DefB.ok {N : List Str} (D : DefB K C m qual st ps) (S : FnScope N ps (defScope st)) (len : ∀ vs H Q E, sp vs H Q E → vs.length = ps.length)
    (hbody : ∀ (f : Addr) (cdv : Value) (A : Around) (outer : List Env) (s : Shared) (H : Hp) (vs : List V) (Q : VK) (E : XK), Room k (A.deeper (envOfC qual (defScope st) s.heap.objs.size f cdv)) → sp vs H Q E →
      ∃ t, PSs (cxOf CX0 P w K mg base N qual (defScope st) f cdv A outer s H E).nox (defBody st) t ∧ t { nx := fun _ H' => Q .non H', rt := Q } (start N vs) H) : BOk P w K mg base CX0 (k + 1) C m sp := by
  obtain ⟨f, fd, F, a, b⟩ := D
  exact ⟨f, FnOk.toR (F.ok S len fun cdv A outer s H vs Q E hr h => hbody f cdv A outer s H vs Q E hr h) b, a⟩
theorem DefBS.ok {N : List Str} {pv : Str} (D : DefBS K C m qual st ps pv) (S : FnScope N (ps ++ [pv]) (defScope st))
    (hbody : ∀ (f : Addr) (cdv : Value) (A : Around) (outer : List Env) (s : Shared) (H : Hp) (vs : List V) (Q : VK) (E : XK), Room k (A.deeper (envOfC qual (defScope st) s.heap.objs.size f cdv)) → sp vs H Q E →
      ∃ t, PSs (cxOf CX0 P w K mg base N qual (defScope st) f cdv A outer s H E).nox (defBody st) t ∧ t { nx := fun _ H' => Q .non H', rt := Q } (start N vs) H) : BOk P w K mg base CX0 (k + 1) C m (spStar ps.length sp) := by
  obtain ⟨f, fd, F, M, hb⟩ := D
  obtain ⟨oc, od, kV, doc, pm, an, cdv, ct, osl, rfl, lk, hcd⟩ := F.ex
  exact ⟨f, fn_star (sp := sp) lk hcd S cxUp_none hb fun A outer s H vs Q E hr h => let ⟨t, a, b⟩ := hbody f cdv A outer s H vs Q E hr h; ⟨t, a.nox, b⟩, M⟩
end
section
variable {X : Cx} {CX : CXT} {k : Nat} {C : Addr} {sp : Sp} {E : XK} {f : Str} {e o : Expr} {es : List Expr} {ta : TE} {t : TA} {pos apos : Pos} {K : PySem.W.Frag}
def tOF (K : PySem.W.Frag) (f : Str) (C : Addr) (sp : Sp) (E : XK) (ta : TE) (t : TA) : TE := fun σ H Q => ta σ H fun x H1 => rFld K f x H1 fun y H1 => ∃ a, y = V.ref a ∧ t σ H1 fun vs H2 => InsA H2 a C ∧ sp (V.ref a :: vs) H2 Q E
theorem pe_oF {pl : Sem Bool} (hk : X.K = K) (hf : PE X o ta) (G : OOk X.prog X.w X.K X.mg X.base CX k C sp) (hr : Room k X.A) (hx : Passes CX X E) (ha : PA X (e :: es) t)
    (he : starEach (e :: es) X.env = (false, eval e X.env) :: starEach es X.env := by rfl) (hpl : (backTo pos (starEach es X.env)).any (·.1) = false := by rfl)
    (ht : eval (.Call (.Attribute o f apos) (e :: es) [] pos) X.env = (do
      let ov ← eval o X.env
      standAt apos.atName
      let (f, first) ← holding [ov] (getMethod ov f pl)
      callWith pos f first (backTo pos (starEach (e :: es) X.env)) (backToKw pos (keywordEach [] X.env))) := by rfl) : PE X (.Call (.Attribute o f apos) (e :: es) [] pos) (tOF K f C sp E ta t) := by
  subst hk
  obtain ⟨g, F, c⟩ := G
  refine ⟨fun pins s σ H Q I h => ?_⟩
  refine PySem.W.methodCall_KW (pl := pl) (thn (hf.run pins s σ H _ I h) fun u s1 ⟨x, H1, I1, rx, a, C', dx, fs, v, ex, ea, cc, nn, l, b, ev, q⟩ => ?_) ht
  subst ex ev
  obtain rfl : u = Value.ref a := rx
  refine getmeth_fld I1 ea cc nn l fun u2 s2 I2 r2 => ?_
  obtain rfl : u2 = Value.ref b := r2
  refine callO_with (thn (ha.run pos pins s2 σ H1 _ I2 q) fun us s3 ⟨vs, H2, I3, r, hi, q2⟩ => ?_) he hpl
  have hi' : StX.InsC X H2 b C := .inr hi
  obtain ⟨ox, od, J, hd⟩ := insC_at I3 hi'
  exact ⟨⟨C, ox, od, J, hd⟩, run_callO c F hr hx I3 hi' r q2⟩
theorem rd_oF {σ : St} {H : Hp} {Q : VK} (h : ta σ H fun x H1 => rFld K f x H1 fun y H1 => ∃ a, y = V.ref a ∧ t σ H1 fun vs H2 => InsA H2 a C ∧ sp (V.ref a :: vs) H2 Q E) : tOF K f C sp E ta t σ H Q := h
end
section
variable {K : PySem.W.Frag} {CT CP CE C : Addr} {H H' H1 : Hp} {Q : VK} {E : XK} {a b d e x dx : Addr} {xs ys : List V} {z : Str} {σ : St} {td ty tx : TE} {w : World} {f : Str} {y v : V} {fs : List (Str × V)} {k : Hp → Prop}
theorem rd_edset (e : H x = some (.ins C dx fs)) (c : Cls K C) (nn : NoAttr K C f) (l : fs.length < 1000) (h : ∀ H', But x H H' → H' x = some (.ins C dx (putF f y fs)) → k H') : rSFld K f y (.ref x) H k :=
  rd_sfld_at e c nn l (h _ (But.at But.refl) upd_same)
end
section
variable {K : PySem.W.Frag} {CIS CTL CIP CIL CT CP CE C : Addr} {H H' H1 : Hp} {Q : VK} {E : XK} {e : Addr} {xs ms rs : List V} {ss : List Stp} {ds : List Ent} {p l v : V} {A B : Sp}
theorem AddOut.same (S : Same H H1) (h : AddOut K CIS CTL CT CP CE H e ss ds xs Q E) : AddOut K CIS CTL CT CP CE H1 e ss ds xs Q E := by
  rcases h with ⟨s, h1, h2, h3, h4, k⟩ | ⟨h1, k⟩ | ⟨s, h1, h2, h3, h4, k⟩
  · exact .inl ⟨s, h1, h2, h3, h4, fun H' b ed => k H' ((But.same S).trans b) ed⟩
  · exact .inr (.inl ⟨h1, fun d H' S' => k d H' (Same.trans S S')⟩)
  · exact .inr (.inr ⟨s, h1, h2, h3, h4, fun H' S' => k H' (Same.trans S S')⟩)
theorem RetOut.same (S : Same H H1) (h : RetOut K CIP CIL CT CP CE H e ss ds p l Q E) : RetOut K CIP CIL CT CP CE H1 e ss ds p l Q E := by
  rcases h with ⟨i, c, h1, h2, h3, h4, h5, k⟩ | ⟨h1, k⟩ | ⟨h1, h2, k⟩
  · exact .inl ⟨i, c, h1, h2, h3, h4, h5, fun H' b ed => k H' ((But.same S).trans b) ed⟩
  · exact .inr (.inl ⟨h1, fun H' S' => k H' (Same.trans S S')⟩)
  · exact .inr (.inr ⟨h1, h2, fun H' S' => k H' (Same.trans S S')⟩)
theorem ExOut.same (S : Same H H1) (h : ExOut K CIS CTL CIP CIL CT CP CE H e ss ds xs Q E) : ExOut K CIS CTL CIP CIL CT CP CE H1 e ss ds xs Q E := by
  unfold ExOut at h ⊢
  split
  · exact RetOut.same S h
  · rename_i hn
    split at h
    · exact absurd rfl (hn _ _ _)
    · exact AddOut.same S h
end
end L2.Px
set_option Elab.async false
set_option linter.all false
set_option maxRecDepth 100000
set_option maxHeartbeats 1000000
namespace L2.Px
open PySem PySem.Spec PyProof.Rows StX ClX
section
variable {K : PySem.W.Frag} {CT CP CE : Addr} {H H1 : Hp} {Q : VK} {E : XK} {rs ms : List V} {ss : List Stp} {os : List Op}
theorem OpsAt.mono (h : OpsAt K H ms os) (S : Same H H1) : OpsAt K H1 ms os := ⟨h.1, fun j o q => let ⟨v, a, b, c, d⟩ := h.2 j o q; ⟨v, a, b, c, Same.tup S d⟩⟩
end
end L2.Px
set_option Elab.async false
set_option linter.all false
set_option maxRecDepth 100000
set_option maxHeartbeats 1000000
namespace L2.Px
open PySem PySem.Spec PyProof.Rows StX TL ClX LamX
def gL (ls : List (Nat × Nat)) (k : Nat) : Option Nat := (ls.find? fun c => decide (c.1 = k)).map (·.2)
def putL (ls : List (Nat × Nat)) (k c : Nat) : List (Nat × Nat) := if (ls.any fun p => decide (p.1 = k)) = true then ls.map (fun p => if p.1 = k then (p.1, c) else p) else ls ++ [(k, c)]
def kvM (ls : List (Nat × Nat)) : List (Key × V) := ls.map fun c => ((Sum.inl ((c.1 : Nat) : Int) : Key), V.str ⟨#[c.2]⟩)
theorem gL_cons (p : Nat × Nat) (ls : List (Nat × Nat)) (k : Nat) : gL (p :: ls) k = if p.1 = k then some p.2 else gL ls k := by
  unfold gL
  rw [List.find?_cons]
  by_cases h : p.1 = k
  · rw [decide_eq_true h, if_pos h]; rfl
  · rw [decide_eq_false h, if_neg h]
theorem kvM_val : ∀ (ls : List (Nat × Nat)) (k : Nat), valV (kvM ls) (Sum.inl ((k : Nat) : Int) : Key) = (gL ls k).map fun c => V.str ⟨#[c]⟩
  | [], _ => rfl
  | c :: cs, k => by
    show valV (((Sum.inl ((c.1 : Nat) : Int) : Key), V.str ⟨#[c.2]⟩) :: kvM cs) _ = _
    rw [gL_cons]
    by_cases e : c.1 = k
    · rw [valV_pos (by rw [e]), if_pos e]; rfl
    · rw [valV_neg (by intro z; have := Sum.inl.inj z; omega), kvM_val cs k, if_neg e]
theorem kvM_put (ls : List (Nat × Nat)) (k c : Nat) : putK (kvM ls) (Sum.inl ((k : Nat) : Int) : Key) (.str ⟨#[c]⟩) = kvM (putL ls k c) := by
  unfold putK putL
  have e : ((kvM ls).any fun kv => decide (kv.1 = (Sum.inl ((k : Nat) : Int) : Key))) = ls.any fun p => decide (p.1 = k) := by
    unfold kvM
    rw [List.any_map]
    refine congrArg (fun f => ls.any f) (funext fun p => decide_eq_decide.mpr ⟨fun z => ?_, fun z => by show (Sum.inl ((p.1 : Nat) : Int) : Key) = _; rw [z]⟩)
    have := Sum.inl.inj (show (Sum.inl ((p.1 : Nat) : Int) : Key) = Sum.inl ((k : Nat) : Int) from z)
    omega
  rw [e]
  split
  · unfold kvM
    rw [List.map_map, List.map_map]
    refine List.map_congr_left fun p _ => ?_
    show (if (Sum.inl ((p.1 : Nat) : Int) : Key) = Sum.inl ((k : Nat) : Int) then ((Sum.inl ((p.1 : Nat) : Int) : Key), V.str ⟨#[c]⟩) else (Sum.inl ((p.1 : Nat) : Int), V.str ⟨#[p.2]⟩)) = _
    by_cases z : p.1 = k
    · rw [if_pos (by rw [z])]
      show _ = ((Sum.inl (((if p.1 = k then (p.1, c) else p).1 : Nat) : Int) : Key), V.str ⟨#[(if p.1 = k then (p.1, c) else p).2]⟩)
      rw [if_pos z]
    · rw [if_neg (by intro y; have := Sum.inl.inj y; omega)]
      show _ = ((Sum.inl (((if p.1 = k then (p.1, c) else p).1 : Nat) : Int) : Key), V.str ⟨#[(if p.1 = k then (p.1, c) else p).2]⟩)
      rw [if_neg z]
  · unfold kvM; rw [List.map_append]; rfl
theorem gL_map (k c j : Nat) : ∀ ls : List (Nat × Nat), gL (ls.map fun p => if p.1 = k then (p.1, c) else p) j = (gL ls j).map fun x => if j = k then c else x
  | [] => rfl
  | p :: ls => by
    rw [List.map_cons, gL_cons, gL_cons, gL_map k c j ls]
    by_cases e : p.1 = k
    · rw [if_pos e]
      show (if p.1 = j then some c else _) = _
      by_cases z : p.1 = j
      · rw [if_pos z, if_pos z]; show _ = some (if j = k then c else p.2); rw [if_pos (z ▸ e)]
      · rw [if_neg z, if_neg z]
    · rw [if_neg e]
      by_cases z : p.1 = j
      · rw [if_pos z, if_pos z]; show _ = some (if j = k then c else p.2); rw [if_neg (z ▸ e)]
      · rw [if_neg z, if_neg z]
theorem gL_any (k : Nat) : ∀ ls : List (Nat × Nat), (ls.any fun p => decide (p.1 = k)) = (gL ls k).isSome
  | [] => rfl
  | p :: ls => by
    rw [List.any_cons, gL_cons, gL_any k ls]
    by_cases e : p.1 = k
    · rw [if_pos e, decide_eq_true e]; rfl
    · rw [if_neg e, decide_eq_false e, Bool.false_or]
theorem gL_snoc (k c j : Nat) : ∀ ls : List (Nat × Nat), gL (ls ++ [(k, c)]) j = (gL ls j).or (if k = j then some c else none)
  | [] => by rw [List.nil_append, gL_cons]; rfl
  | p :: ls => by
    rw [List.cons_append, gL_cons, gL_cons, gL_snoc k c j ls]
    by_cases e : p.1 = j
    · rw [if_pos e, if_pos e]; rfl
    · rw [if_neg e, if_neg e]
theorem gL_put (ls : List (Nat × Nat)) (k c j : Nat) : gL (putL ls k c) j = if j = k then some c else gL ls j := by
  unfold putL
  rw [gL_any]
  split
  · rename_i h
    rw [gL_map]
    by_cases e : j = k
    · subst e
      obtain ⟨x, hx⟩ := Option.isSome_iff_exists.mp h
      rw [hx, if_pos rfl]; show some (if j = j then c else x) = _; rw [if_pos rfl]
    · rw [if_neg e]
      cases gL ls j with
      | none => rfl
      | some x => show some (if j = k then c else x) = _; rw [if_neg e]
  · rename_i h
    rw [gL_snoc]
    by_cases e : j = k
    · subst e
      rw [if_pos rfl, if_pos rfl]
      cases z : gL ls j with
      | none => rfl
      | some x => rw [z] at h; exact absurd rfl h
    · rw [if_neg (fun z => e z.symm), if_neg e]
      cases gL ls j <;> rfl
theorem putL_keys (ls : List (Nat × Nat)) (k c : Nat) : (putL ls k c).map (·.1) = if k ∈ ls.map (·.1) then ls.map (·.1) else ls.map (·.1) ++ [k] := by
  unfold putL
  have e : (ls.any fun p => decide (p.1 = k)) = decide (k ∈ ls.map (·.1)) := by
    rw [Bool.eq_iff_iff, List.any_eq_true, decide_eq_true_iff, List.mem_map]
    constructor
    · rintro ⟨p, h1, h2⟩; exact ⟨p, h1, of_decide_eq_true h2⟩
    · rintro ⟨p, h1, h2⟩; exact ⟨p, h1, decide_eq_true h2⟩
  rw [e]
  by_cases h : k ∈ ls.map (·.1)
  · rw [if_pos (decide_eq_true h), if_pos h, List.map_map]
    refine List.map_congr_left fun p _ => ?_
    show (if p.1 = k then (p.1, c) else p).1 = p.1
    split <;> rfl
  · rw [if_neg (by rw [decide_eq_false h]; exact Bool.false_ne_true), if_neg h, List.map_append]; rfl
/-- the letters are letters, the keys unlike and below n -/
structure LsOk (n : Nat) (ls : List (Nat × Nat)) : Prop where
  ok : ∀ p ∈ ls, p.1 < n ∧ 97 ≤ p.2 ∧ p.2 ≤ 122
  nd : (ls.map (·.1)).Nodup
theorem LsOk.nil {n : Nat} : LsOk n [] := ⟨fun p h => absurd h (List.not_mem_nil), List.Pairwise.nil⟩
theorem LsOk.put {n : Nat} {ls : List (Nat × Nat)} {k c : Nat} (h : LsOk n ls) (hk : k < n) (h1 : 97 ≤ c) (h2 : c ≤ 122) : LsOk n (putL ls k c) := by
  refine ⟨fun p hp => ?_, ?_⟩
  · unfold putL at hp
    split at hp
    · obtain ⟨q, hq, rfl⟩ := List.mem_map.mp hp
      have := h.ok q hq
      split
      · exact ⟨this.1, h1, h2⟩
      · exact this
    · rcases List.mem_append.mp hp with hp | hp
      · exact h.ok p hp
      · rw [List.mem_singleton.mp hp]; exact ⟨hk, h1, h2⟩
  · rw [putL_keys]
    split
    · exact h.nd
    · rename_i z
      rw [List.nodup_append]
      exact ⟨h.nd, List.pairwise_singleton _ _, fun a ha b hb => by rw [List.mem_singleton.mp hb]; intro e; exact z (e ▸ ha)⟩
theorem LsOk.len {n : Nat} {ls : List (Nat × Nat)} (h : LsOk n ls) : ls.length ≤ n := by
  have := nodup_len (m := List.range n) h.nd fun k hk => by
    obtain ⟨p, hp, rfl⟩ := List.mem_map.mp hk
    exact List.mem_range.mpr (h.ok p hp).1
  simpa using this
theorem LsOk.let {n : Nat} {ls : List (Nat × Nat)} {k c : Nat} (h : LsOk n ls) (e : gL ls k = some c) : k < n ∧ 97 ≤ c ∧ c ≤ 122 := by
  unfold gL at e
  obtain ⟨p, hp, rfl⟩ := Option.map_eq_some_iff.mp e
  have := h.ok p (List.mem_of_find?_eq_some hp)
  have e2 : p.1 = k := by simpa using List.find?_some hp
  rw [← e2]; exact this
/-- the keys whose letters are known, and their letters -/
def knownL (f : Nat → Nat) (ls : List (Nat × Nat)) (n : Nat) : List (Nat × Nat) := (List.range n).filterMap fun k => (gL ls (f k)).map fun c => (k, c)
def knownN (f : Nat → Nat) (ls : List (Nat × Nat)) (n : Nat) : Nat := ((List.range n).filter fun k => (gL ls (f k)).isSome).length
/-- the least keys of the classes without a known letter -/
def openH (f : Nat → Nat) (ls : List (Nat × Nat)) (n : Nat) : List Nat := (List.range n).filter fun k => decide (f k = k) && (gL ls k).isNone
/-- the place where a key is written -/
def fstP : List Stp → Nat → Nat
  | [], _ => 0
  | .wr w :: r, k => if k < w.length then k else w.length + fstP r (k - w.length)
  | .pa f l t :: r, k => (l + 1 - f) * t + fstP r k
inductive Obs where
  | see (p c : Nat)
  | word (p : Nat) (w : List Nat)
  | alike (p o : Nat)
deriving DecidableEq
def obsV : Obs → List V
  | .see p c => [.str "see", .int (p : Nat), .str ⟨#[c]⟩]
  | .word p w => [.str "see_word", .int (p : Nat), .str (mkS w)]
  | .alike p o => [.str "hear_alike", .int (p : Nat), .int (o : Nat)]
def ObsAt (K : PySem.W.Frag) (H : Hp) (ms : List V) (ob : List Obs) : Prop := ms.length = ob.length ∧ ∀ (j : Nat) o, ob[j]? = some o → ∃ a, ms[j]? = some (V.ref a) ∧ SqT K H a (obsV o)
def Bt (A : List Addr) (H H' : Hp) : Prop := ∀ b o, b ∉ A → H b = some o → H' b = some o
def Kh (C : Addr) (H H' : Hp) : Prop := ∀ b o, (∀ dx fs, o ≠ .ins C dx fs) → (∀ kvs, o ≠ .dK kvs) → (∀ y L, o ≠ .lst (natV (y :: L))) → H b = some o → H' b = some o
section
variable {K : PySem.W.Frag} {CT CP CE CK C : Addr} {T : List (Addr × Str)} {A B : List Addr} {H H' H1 : Hp} {a b x h d t l r e : Addr} {o : HO} {v : V} {xs ms ps : List V} {s : Stp} {ss : List Stp} {n y : Nat} {ob : List Obs} {os : List Op} {ds us : List Ent}
theorem Bt.refl : Bt A H H := fun _ _ _ h => h
theorem Bt.trans (e : Bt A H H1) (g : Bt A H1 H') : Bt A H H' := fun b o hb h => g b o hb (e b o hb h)
theorem Bt.same (S : Same H H') : Bt A H H' := fun b o _ h => S b o h
theorem Bt.but (e : But x H H') (hx : x ∈ A) : Bt A H H' := fun b o hb h => e b o (fun z => hb (z ▸ hx)) h
/-- what is new is changed -/
theorem Bt.fresh (S : Same H H1) (e : Bt A H1 H') (n : ∀ a ∈ A, H a = none) : Same H H' := fun b o q => e b o (fun z => by rw [n b z] at q; cases q) (S b o q)
theorem Kh.refl : Kh C H H := fun _ _ _ _ _ h => h
theorem Kh.trans (e : Kh C H H1) (g : Kh C H1 H') : Kh C H H' := fun b o h1 h2 h3 h => g b o h1 h2 h3 (e b o h1 h2 h3 h)
theorem Kh.same (S : Same H H') : Kh C H H' := fun b o _ _ _ h => S b o h
theorem nn_refs (h : ∀ v ∈ xs, isRef v = true) : ∀ y L, HO.lst xs ≠ .lst (natV (y :: L)) := by
  intro y L e
  cases e
  have := h (.int (y : Nat)) (by unfold natV; exact List.mem_cons_self)
  cases this
theorem Kh.tup (e : Kh C H H') (h : SqT K H a xs) : SqT K H' a xs := by
  rcases h with (h | ⟨o, h⟩) | h
  · exact .inl (.inl (e _ _ (fun _ _ z => nomatch z) (fun _ z => nomatch z) (fun _ _ z => nomatch z) h))
  · exact .inl (.inr ⟨o, e _ _ (fun _ _ z => nomatch z) (fun _ z => nomatch z) (fun _ _ z => nomatch z) h⟩)
  · exact .inr h
theorem Kh.tu (e : Kh C H H') (h : H a = some (.tup xs)) : H' a = some (.tup xs) := e _ _ (fun _ _ z => nomatch z) (fun _ z => nomatch z) (fun _ _ z => nomatch z) h
theorem Kh.li (e : Kh C H H') (n : ∀ v ∈ xs, isRef v = true) (h : H a = some (.lst xs)) : H' a = some (.lst xs) := e _ _ (fun _ _ z => nomatch z) (fun _ z => nomatch z) (nn_refs n) h
theorem Kh.lst (e : Kh C H H') (n : ∀ v ∈ xs, isRef v = true) (h : SqL K H a xs) : SqL K H' a xs := by
  rcases h with (h | ⟨o, h⟩) | h
  · exact .inl (.inl (e.li n h))
  · exact .inl (.inr ⟨o, e _ _ (fun _ _ z => nomatch z) (fun _ z => nomatch z) (fun _ _ z => nomatch z) h⟩)
  · exact .inr h
theorem Kh.tabs (e : Kh C H H') (t : Tabs T H) : Tabs T H' := by
  intro p hp
  obtain ⟨ps, h1, h2, h3⟩ := t p hp
  refine ⟨ps, e _ _ (fun _ _ z => nomatch z) (fun _ z => nomatch z) (fun _ _ z => nomatch z) h1, h2, fun pos cv hc => ?_⟩
  obtain ⟨c, h4, h5⟩ := h3 pos cv hc
  exact ⟨c, h4, e _ _ (fun _ _ z => nomatch z) (fun _ z => nomatch z) (fun _ _ z => nomatch z) h5⟩
theorem StepsAt.kh (h : StepsAt K H ms ss) (e : Kh C H H') : StepsAt K H' ms ss := ⟨h.1, fun j s q => let ⟨v, a, b, c, z⟩ := h.2 j s q; ⟨v, a, b, c, e.tup z⟩⟩
theorem PartAt.kh (hn : CP ≠ C) (h : PartAt CP H v n y s) (e : Kh C H H') : PartAt CP H' v n y s := by
  cases s with
  | wr w => obtain ⟨p, dx, ev, q⟩ := h; exact ⟨p, dx, ev, e _ _ (ins_ne hn) (fun _ z => nomatch z) (fun _ _ z => nomatch z) q⟩
  | pa f l t => obtain ⟨p, dx, ev, q⟩ := h; exact ⟨p, dx, ev, e _ _ (ins_ne hn) (fun _ z => nomatch z) (fun _ _ z => nomatch z) q⟩
theorem PartsAt.kh (hn : CP ≠ C) (h : PartsAt CP H ps ss) (e : Kh C H H') : PartsAt CP H' ps ss := ⟨h.1, fun j s q => let ⟨v, a, b⟩ := h.2 j s q; ⟨v, a, b.kh hn e⟩⟩
theorem TX.kh (h : TX K CT CP H a ss) (hT : CT ≠ C) (hP : CP ≠ C) (e : Kh C H H') : TX K CT CP H' a ss :=
  let ⟨t, x, y⟩ := h; ⟨t, ⟨e _ _ (ins_ne hT) (fun _ z => nomatch z) (fun _ _ z => nomatch z) x.ins, e.tup x.made, x.stp.kh e, e.li x.prt.refs x.pls, x.prt.kh hP e, x.ok, x.few⟩, y⟩
theorem TS'.kh (h : TS' K H a ss) (e : Kh C H H') : TS' K H' a ss := let ⟨ms, x, y⟩ := h; ⟨ms, e.tup x, y.kh e⟩
theorem OpAt.kh {o : Op} (h : OpAt K H v o) (e : Kh C H H') : OpAt K H' v o := let ⟨a, b, c⟩ := h; ⟨a, b, e.tup c⟩
theorem OpsAt.kh (h : OpsAt K H ms os) (e : Kh C H H') : OpsAt K H' ms os := ⟨h.1, fun j s q => let ⟨v, a, b⟩ := h.2 j s q; ⟨v, a, b.kh e⟩⟩
theorem EntsAt.kh {es : List Ent} (hT : CT ≠ C) (hP : CP ≠ C) (h : EntsAt K CT CP H ms es) (k : Kh C H H') : EntsAt K CT CP H' ms es :=
  ⟨h.1, fun j s q => let ⟨v, a, t, o, b, c, ev, q0, h1, h2, h3⟩ := h.2 j s q; ⟨v, a, t, o, b, c, ev, k.tup q0, h1.kh k, h2.kh hT hP k, h3.kh hT hP k⟩⟩
theorem EdAt.kh (hT : CT ≠ C) (hP : CP ≠ C) (hE : CE ≠ C) (h : EdAt K CT CP CE H e ss ds us) (k : Kh C H H') : EdAt K CT CP CE H' e ss ds us := by
  obtain ⟨i, a, b⟩ := h
  exact ⟨i, ⟨k _ _ (ins_ne hE) (fun _ z => nomatch z) (fun _ _ z => nomatch z) a.ins, a.tx.kh hT hP k, k.tup a.dn, a.de.kh hT hP k, k.tup a.un, a.ue.kh hT hP k⟩, b⟩
theorem ObsAt.kh (h : ObsAt K H ms ob) (e : Kh C H H') : ObsAt K H' ms ob := ⟨h.1, fun j s q => let ⟨a, b, c⟩ := h.2 j s q; ⟨a, b, e.tup c⟩⟩
theorem ObsAt.kl (h : ObsAt K H ms ob) (e : Kl T H H') : ObsAt K H' ms ob := ⟨h.1, fun j s q => let ⟨a, b, c⟩ := h.2 j s q; ⟨a, b, e.tup c⟩⟩
theorem ObsAt.mono (h : ObsAt K H ms ob) (e : Same H H') : ObsAt K H' ms ob := ⟨h.1, fun j s q => let ⟨a, b, c⟩ := h.2 j s q; ⟨a, b, Same.tup e c⟩⟩
theorem ObsAt.nil : ObsAt K H [] [] := ⟨rfl, fun _ _ h => by simp at h⟩
theorem ObsAt.snoc {o : Obs} (h : ObsAt K H ms ob) (q : SqT K H a (obsV o)) : ObsAt K H (ms ++ [.ref a]) (ob ++ [o]) := by
  refine ⟨by simp [h.1], fun j s hj => ?_⟩
  rcases Nat.lt_or_ge j ob.length with z | z
  · rw [List.getElem?_append_left z] at hj
    obtain ⟨v', a, b⟩ := h.2 j s hj
    exact ⟨v', by rw [List.getElem?_append_left (by rw [h.1]; exact z)]; exact a, b⟩
  · have e : j = ob.length := by
      have := (List.getElem?_eq_some_iff.mp hj).1
      rw [List.length_append, List.length_singleton] at this; omega
    subst e
    rw [List.getElem?_append_right (Nat.le_refl _), Nat.sub_self] at hj
    cases hj
    exact ⟨a, by rw [← h.1, List.getElem?_append_right (Nat.le_refl _), Nat.sub_self]; rfl, q⟩
end
def rdF (t h d s : V) : List (Str × V) := [("source_text", t), ("heads", h), ("letters", d), ("seen", s)]
section
variable {t h d s v : V} {f : Str}
theorem rdF_text : (rdF t h d s).lookup ("source_text" : Str) = some t := by unfold rdF; rw [List.lookup_cons_self]
theorem rdF_heads : (rdF t h d s).lookup ("heads" : Str) = some h := by
  unfold rdF; rw [List.lookup_cons, show (("heads" : Str) == "source_text") = false by decide +kernel]; simp only; rw [List.lookup_cons_self]
theorem rdF_letters : (rdF t h d s).lookup ("letters" : Str) = some d := by
  unfold rdF; rw [List.lookup_cons, show (("letters" : Str) == "source_text") = false by decide +kernel]; simp only
  rw [List.lookup_cons, show (("letters" : Str) == "heads") = false by decide +kernel]; simp only; rw [List.lookup_cons_self]
theorem rdF_seen : (rdF t h d s).lookup ("seen" : Str) = some s := by
  unfold rdF; rw [List.lookup_cons, show (("seen" : Str) == "source_text") = false by decide +kernel]; simp only
  rw [List.lookup_cons, show (("seen" : Str) == "heads") = false by decide +kernel]; simp only
  rw [List.lookup_cons, show (("seen" : Str) == "letters") = false by decide +kernel]; simp only; rw [List.lookup_cons_self]
theorem rdF_put : putF "seen" v (rdF t h d s) = rdF t h d v := by unfold rdF; rw [putF_miss (by decide +kernel), putF_miss (by decide +kernel), putF_miss (by decide +kernel), putF_hit]
theorem rdF_made : putF "seen" s (putF "letters" d (putF "heads" h (putF "source_text" t []))) = rdF t h d s := by
  unfold rdF
  rw [putF_nil]
  rw [putF_miss (f := "heads") (g := "source_text") (by decide +kernel), putF_nil]
  rw [putF_miss (f := "letters") (g := "source_text") (by decide +kernel), putF_miss (f := "letters") (g := "heads") (by decide +kernel), putF_nil]
  rw [putF_miss (f := "seen") (g := "source_text") (by decide +kernel), putF_miss (f := "seen") (g := "heads") (by decide +kernel), putF_miss (f := "seen") (g := "letters") (by decide +kernel), putF_nil]
theorem rdF_no (h' : f ≠ "source_text" ∧ f ≠ "heads" ∧ f ≠ "letters" ∧ f ≠ "seen") : (rdF t h d s).lookup f = none := by
  unfold rdF
  simp only [List.lookup_cons, beq_false_of_ne h'.1, beq_false_of_ne h'.2.1, beq_false_of_ne h'.2.2.1, beq_false_of_ne h'.2.2.2, List.lookup_nil]
theorem rdF_len : (rdF t h d s).length < 1000 := by show 4 < 1000; decide
end
structure RdI where
  dx : Addr
  t : Addr
  s : Addr
  sm : List V
  hs : List Nat
/-- the reader at x, its heads at h, its dict at d: its text, the roots, the letters of roots, the observations -/
structure RdAt (K : PySem.W.Frag) (CT CP CK : Addr) (H : Hp) (x h d : Addr) (ss : List Stp) (f : Nat → Nat) (ls : List (Nat × Nat)) (ob : List Obs) (i : RdI) : Prop where
  ins : H x = some (.ins CK i.dx (rdF (.ref i.t) (.ref h) (.ref d) (.ref i.s)))
  tx : TX K CT CP H i.t ss
  hl : H h = some (.lst (natV i.hs))
  dl : H d = some (.dK (kvM ls))
  sn : SqT K H i.s i.sm
  obs : ObsAt K H i.sm ob
  rt : Rt i.hs f
  len : i.hs.length = (tyL ss).length
  lok : LsOk (tyL ss).length ls
def Reader (K : PySem.W.Frag) (CT CP CK : Addr) (H : Hp) (x h d : Addr) (ss : List Stp) (f : Nat → Nat) (ls : List (Nat × Nat)) (ob : List Obs) : Prop := ∃ i, RdAt K CT CP CK H x h d ss f ls ob i
section
variable {K : PySem.W.Frag} {CT CP CE CK : Addr} {H H' : Hp} {x h d l p : Addr} {ss : List Stp} {f : Nat → Nat} {ls : List (Nat × Nat)} {ob : List Obs} {i : RdI} {Q : VK} {E : XK}
theorem RdAt.same (r : RdAt K CT CP CK H x h d ss f ls ob i) (S : Same H H') : RdAt K CT CP CK H' x h d ss f ls ob i :=
  ⟨S _ _ r.ins, r.tx.kp (.same S), S _ _ r.hl, S _ _ r.dl, Same.tup S r.sn, r.obs.kh (C := x) (.same S), r.rt, r.len, r.lok⟩
theorem Reader.same (r : Reader K CT CP CK H x h d ss f ls ob) (S : Same H H') : Reader K CT CP CK H' x h d ss f ls ob := let ⟨i, a⟩ := r; ⟨i, a.same S⟩
theorem Reader.kl {T : List (Addr × Str)} (r : Reader K CT CP CK H x h d ss f ls ob) (k : Kl T H H') : Reader K CT CP CK H' x h d ss f ls ob := let ⟨i, a⟩ := r
  ⟨i, k.keep _ _ nr_ins (fun _ z => nomatch z) a.ins, a.tx.kl k, k.keep _ _ nr_natV (fun _ z => nomatch z) a.hl, k.keep _ _ id (fun _ z => nomatch z) a.dl, k.tup a.sn, a.obs.kl k, a.rt, a.len, a.lok⟩
theorem Reader.kp (r : Reader K CT CP CK H x h d ss f ls ob) (k : Kp H H') : Reader K CT CP CK H' x h d ss f ls ob := r.kl (T := []) (.kp k)
/-- an editor changes -/
theorem Reader.km {T : List (Addr × Str)} (hT : CT ≠ CE) (hP : CP ≠ CE) (hK : CK ≠ CE) (r : Reader K CT CP CK H x h d ss f ls ob) (k : Km CE T H H') : Reader K CT CP CK H' x h d ss f ls ob := let ⟨i, a⟩ := r
  ⟨i, k.keep _ _ nr_ins (fun _ z => nomatch z) (ins_ne hK) a.ins, a.tx.km hT hP k, k.li nr_natV a.hl, k.keep _ _ id (fun _ z => nomatch z) (fun _ _ z => nomatch z) a.dl, k.tup a.sn, ⟨a.obs.1, fun j o q => let ⟨b, e, g⟩ := a.obs.2 j o q; ⟨b, e, k.tup g⟩⟩, a.rt, a.len, a.lok⟩
theorem Reader.insM {m : Str} (r : Reader K CT CP CK H x h d ss f ls ob) (hm : m ≠ "source_text" ∧ m ≠ "heads" ∧ m ≠ "letters" ∧ m ≠ "seen" := by decide +kernel) : InsM H x CK m := let ⟨_, a⟩ := r; ⟨_, _, a.ins, rdF_no hm⟩
theorem Reader.insA (r : Reader K CT CP CK H x h d ss f ls ob) : InsA H x CK := let ⟨_, a⟩ := r; ⟨_, _, a.ins⟩
/-- the reader changes: texts, rows, tables, editors stay -/
theorem Reader.kh (r : Reader K CT CP CK H x h d ss f ls ob) (h0 : 0 < (tyL ss).length) (e : Bt [x, h, d] H H') : Kh CK H H' := by
  obtain ⟨i, a⟩ := r
  refine fun b o h1 h2 h3 q => e b o ?_ q
  intro hb
  simp only [List.mem_cons, List.not_mem_nil, or_false] at hb
  rcases hb with rfl | rfl | rfl
  · rw [a.ins] at q; cases q; exact h1 _ _ rfl
  · rw [a.hl] at q
    cases q
    have hl := a.len
    cases hh : i.hs with
    | nil => rw [hh] at hl; simp at hl; omega
    | cons y L => exact h3 y L (by rw [hh])
  · rw [a.dl] at q; cases q; exact h2 _ rfl
variable (K CT CP CK)
def sp_KeyReader_init : Sp := fun vs H Q _ => ∃ x dx t ss, vs = [.ref x, .ref t] ∧ H x = some (.ins CK dx []) ∧ TX K CT CP H t ss ∧ ∀ H' h d, But x H H' → H h = none → H d = none → h ≠ x → d ≠ x → h ≠ d → Reader K CT CP CK H' x h d ss id [] [] → Q .non H'
def sp_KeyReader_head : Sp := fun vs H Q _ => ∃ x h d ss f ls ob, ∃ k : Nat, vs = [.ref x, .int k] ∧ Reader K CT CP CK H x h d ss f ls ob ∧ k < (tyL ss).length ∧ Q (.int (f k : Nat)) H
def sp_KeyReader_accept_letter : Sp := fun vs H Q _ => ∃ x h d ss f ls ob, ∃ k c : Nat, vs = [.ref x, .int k, .str ⟨#[c]⟩] ∧ Reader K CT CP CK H x h d ss f ls ob ∧ k < (tyL ss).length ∧ 97 ≤ c ∧ c ≤ 122 ∧ (∀ c', gL ls (f k) = some c' → c' = c) ∧ ∀ H', But d H H' → Reader K CT CP CK H' x h d ss f (putL ls (f k) c) ob → Q .non H'
def sp_KeyReader_known_count : Sp := fun vs H Q _ => ∃ x h d ss f ls ob, vs = [.ref x] ∧ Reader K CT CP CK H x h d ss f ls ob ∧ ∀ H', Same H H' → Q (.int (knownN f ls (tyL ss).length : Nat)) H'
def sp_KeyReader_see : Sp := fun vs H Q _ => ∃ x h d ss f ls ob, ∃ p c : Nat, vs = [.ref x, .int p, .str ⟨#[c]⟩] ∧ Reader K CT CP CK H x h d ss f ls ob ∧ p < sz ss ∧ 97 ≤ c ∧ c ≤ 122 ∧ (∀ c', gL ls (f (kat ss p)) = some c' → c' = c) ∧ ob.length < 10000 ∧
  ∀ H', Bt [x, h, d] H H' → Reader K CT CP CK H' x h d ss f (putL ls (f (kat ss p)) c) (ob ++ [.see p c]) → Q (.int (knownN f (putL ls (f (kat ss p)) c) (tyL ss).length : Nat)) H'
def sp_KeyReader_known_letters : Sp := fun vs H Q _ => ∃ x h d ss f ls ob, vs = [.ref x] ∧ Reader K CT CP CK H x h d ss f ls ob ∧ ∀ H' p, Same H H' → H p = none → H' p = some (.dK (kvM (knownL f ls (tyL ss).length))) → Q (.ref p) H'
def sp_KeyReader_open_heads : Sp := fun vs H Q _ => ∃ x h d ss f ls ob, vs = [.ref x] ∧ Reader K CT CP CK H x h d ss f ls ob ∧ ∀ H' p, Same H H' → H p = none → H' p = some (.lst (natV (openH f ls (tyL ss).length))) → Q (.ref p) H'
def sp_KeyReader_first_place : Sp := fun vs H Q _ => ∃ x h d ss f ls ob, ∃ k : Nat, vs = [.ref x, .int k] ∧ Reader K CT CP CK H x h d ss f ls ob ∧ k < (tyL ss).length ∧ ∀ H', Same H H' → Q (.int (fstP ss k : Nat)) H'
def sp_KeyReader_fewest_places : Sp := fun vs H Q _ => ∃ x h d ss f ls ob, vs = [.ref x] ∧ Reader K CT CP CK H x h d ss f ls ob ∧ ∀ H' p, Same H H' → H p = none → H' p = some (.lst (natV ((openH f ls (tyL ss).length).map (fstP ss)))) → Q (.ref p) H'
end
end L2.Px
set_option Elab.async false
set_option linter.all false
set_option maxRecDepth 100000
set_option maxHeartbeats 4000000
namespace L2.Px
open PySem PySem.Spec PyProof.Rows
end L2.Px
set_option Elab.async false
set_option linter.all false
set_option maxRecDepth 100000
set_option maxHeartbeats 2000000
namespace L2.Px
open PySem PySem.Spec PyProof.Rows StX TL
section
variable {K : PySem.W.Frag} {CI CT CP : Addr} {H H' H1 : Hp} {a b l r p : Addr} {L M : List Nat} {Q : VK} {E : XK} {cs ds : List (Nat × Nat)} {cl : List (List Nat)} {i j : Int} {ss tt : List Stp} {n c : Nat} {X : Cx} {σ : St} {f : Nat → Nat}
def rLenDA : List V → Hp → VK → Prop := fun xs H Q => ∃ a kvs, xs = [V.ref a] ∧ H a = some (.dK kvs) ∧ Q (.int kvs.length) H
theorem lenDK : CallR X (.builtin "len") rLenDA := call_lenD
variable (K)
variable {K}
end
end L2.Px
namespace L2.Px
open PySem PySem.Spec PyProof.Rows StX TL
end L2.Px
set_option Elab.async false
set_option linter.all false
set_option maxRecDepth 100000
set_option maxHeartbeats 1000000
namespace L2.Px
open PySem PySem.Spec PyProof.Rows StX TL ClX LamX
section
variable {J : It} {n : Nat} {it : Nat → V} {H1 : Hp} {g : TG} {tt : TT} {tk tv : TE} {vs : List Nat} {σ : St} {D : Addr} {Qd : Hp → Prop}
/-- {kf x: vf x for a, b in .. if p}, the keys all unlike -/
theorem dc_filtG (P : Plain J n it H1) (hD : H1 D = none) (hn : n < sizeLine) (τ : Nat → St) (hw : ∀ i, wipe (τ i) vs = wipe σ vs) (hg : ∀ i H (R : St → Hp → Prop), i < n → Same H1 H → R (τ i) H → g (it i) (wipe σ vs) H R)
    (kf : Nat → Key) (vf : Nat → V) (p : Nat → Bool) (hk : ∀ i k, i < k → k < n → kf i ≠ kf k)
    (ht : ∀ i H (R : Bool → Hp → Prop), i < n → Same H1 H → (∀ H', Same H H' → R (p i) H') → tt (τ i) H R)
    (hs : ∀ i H (Q : VK), i < n → p i = true → Same H1 H → (∀ H', Same H H' → Q (kV (kf i)) H') → tk (τ i) H Q)
    (hv : ∀ i H (Q : VK), i < n → p i = true → Same H1 H → (∀ H', Same H H' → Q (vf i) H') → tv (τ i) H Q)
    (hd : ∀ H, Same H1 H → H D = some (.dK (((List.range n).filter p).map fun i => (kf i, vf i))) → Qd H) : DcW J g tt tk tv vs σ H1 D Qd := by
  refine ⟨fun i m H => m = n - i ∧ i ≤ n ∧ Same H1 H ∧ H D = some (.dK (((List.range i).filter p).map fun i => (kf i, vf i))), ⟨_, rfl, Nat.zero_le _, Same.new (Same.refl _) hD, upd_same⟩, ?_⟩
  rintro i m H ⟨rfl, hi, S, eD⟩
  by_cases hlt : i < n
  · refine .inr ⟨P.go i H S hlt, fun H' => i + 1 ≤ n ∧ Same H1 H' ∧ H' D = some (.dK (((List.range (i + 1)).filter p).map fun i => (kf i, vf i))), fun H' z => ⟨n - (i + 1), by omega, rfl, z⟩, fun x H' y => ?_⟩
    obtain ⟨e1, e2⟩ := P.yld i H x H' S hlt y
    subst e1 e2
    refine hg i H' _ hlt S ⟨hw i, ht i H' _ hlt S fun H2 S2 => ?_⟩
    by_cases hp : p i = true
    · rw [if_pos hp]
      refine hs i H2 _ hlt hp (S.trans S2) fun H3 S3 => hv i H3 _ hlt hp ((S.trans S2).trans S3) fun H4 S4 => ⟨_, kf i, rfl, S4 _ _ (S3 _ _ (S2 _ _ eD)), ?_, hlt, Same.mut (((S.trans S2).trans S3).trans S4) hD, ?_⟩
      · have := List.length_filter_le p (List.range i)
        rw [List.length_range] at this
        rw [List.length_map]; omega
      · rw [upd_same, putK_new, List.range_succ, List.filter_append, List.map_append]
        · simp [hp]
        · unfold valV
          rw [List.find?_eq_none.mpr]
          · rfl
          · intro kv hkv
            obtain ⟨q, hq, rfl⟩ := List.mem_map.mp hkv
            have := List.mem_range.mp (List.mem_filter.mp hq).1
            simpa using hk q i this hlt
    · rw [if_neg hp]
      refine ⟨hlt, S.trans S2, ?_⟩
      rw [S2 _ _ eD, List.range_succ, List.filter_append, List.map_append]
      simp [hp]
  · have e : i = n := by omega
    subst e
    exact .inl ⟨P.stop H S, hd H S eD⟩
end
/-- known letters as the comprehension makes them -/
theorem knownL_kv (f : Nat → Nat) (ls : List (Nat × Nat)) (n : Nat) : kvM (knownL f ls n) = ((List.range n).filter fun k => (gL ls (f k)).isSome).map fun k => ((Sum.inl ((k : Nat) : Int) : Key), V.str ⟨#[(gL ls (f k)).getD 0]⟩) := by
  unfold knownL kvM
  rw [List.map_filterMap]
  induction (List.range n) with
  | nil => rfl
  | cons k r ih =>
    rw [List.filterMap_cons, List.filter_cons]
    cases e : gL ls (f k) with
    | none => simpa using ih
    | some c =>
      simp only [Option.map_some, Option.isSome_some, if_true, List.map_cons, e, Option.getD_some]
      rw [ih]
/-- keys are written in their order -/
theorem fstP_lt : ∀ (ss : List Stp) (n : Nat), okFrom n ss → ∀ j k, j < k → k < (tyL ss).length → fstP ss j < fstP ss k
  | [], _, _, j, k, _, hk => absurd hk (by simp [tyL])
  | .wr w :: r, n, ok, j, k, hjk, hk => by
    have hl : (tyL (.wr w :: r)).length = w.length + (tyL r).length := by
      rw [show tyL (.wr w :: r) = ty1 (.wr w) ++ tyL r from rfl, List.length_append]; rfl
    rw [hl] at hk
    show (if j < w.length then j else _) < (if k < w.length then k else _)
    by_cases h1 : k < w.length
    · rw [if_pos h1, if_pos (by omega)]; exact hjk
    · rw [if_neg h1]
      by_cases h2 : j < w.length
      · rw [if_pos h2]; omega
      · rw [if_neg h2]
        have := fstP_lt r _ ok.2.2 (j - w.length) (k - w.length) (by omega) (by omega)
        omega
  | .pa f l t :: r, n, ok, j, k, hjk, hk => by
    have := fstP_lt r _ ok.2.2 j k hjk (by simpa [tyL, ty1] using hk)
    show (l + 1 - f) * t + fstP r j < (l + 1 - f) * t + fstP r k
    omega
theorem openH_asc (f : Nat → Nat) (ls : List (Nat × Nat)) (n : Nat) : (openH f ls n).Pairwise (· < ·) := List.Pairwise.filter _ List.pairwise_lt_range
theorem openH_lt {f : Nat → Nat} {ls : List (Nat × Nat)} {n k : Nat} (h : k ∈ openH f ls n) : k < n := List.mem_range.mp (List.mem_filter.mp h).1
theorem pw_map {p : Nat → Nat} {n : Nat} : ∀ {L : List Nat}, L.Pairwise (· < ·) → (∀ x ∈ L, x < n) → (∀ j k, j < k → k < n → p j < p k) → (L.map p).Pairwise (· < ·)
  | [], _, _, _ => List.Pairwise.nil
  | a :: L, h, hn, hp => by
    obtain ⟨h1, h2⟩ := List.pairwise_cons.mp h
    rw [List.map_cons, List.pairwise_cons]
    exact ⟨fun b hb => by
      obtain ⟨x, hx, rfl⟩ := List.mem_map.mp hb
      exact hp _ _ (h1 x hx) (hn x (List.mem_cons_of_mem _ hx)), pw_map h2 (fun x hx => hn x (List.mem_cons_of_mem _ hx)) hp⟩
section
variable {K : PySem.W.Frag} {CT CP CE CK C : Addr} {H H' : Hp} {x h d l p : Addr} {ss : List Stp} {f : Nat → Nat} {ls : List (Nat × Nat)} {ob : List Obs} {i : RdI} {Q : VK} {E : XK} {m : Str} {P : Prop} {k c : Nat} {L : List Nat}
theorem rd_insRd (r : RdAt K CT CP CK H x h d ss f ls ob i) (hm : m ≠ "source_text" ∧ m ≠ "heads" ∧ m ≠ "letters" ∧ m ≠ "seen") (q : P) : InsM H x CK m ∧ P := ⟨⟨_, _, r.ins, rdF_no hm⟩, q⟩
theorem rd_rdHead (r : RdAt K CT CP CK H x h d ss f ls ob i) (hk : k < (tyL ss).length) (q : Q (.int (f k : Nat)) H) : sp_KeyReader_head K CT CP CK [.ref x, .int (k : Nat)] H Q E := ⟨x, h, d, ss, f, ls, ob, k, rfl, ⟨i, r⟩, hk, q⟩
theorem kvM_dget (e : H d = some (.dK (kvM ls))) (k : Nat) : DGet H d (.int (k : Nat)) ((gL ls k).map fun c => V.str ⟨#[c]⟩) := by
  have := DGet.k (k := (Sum.inl ((k : Nat) : Int) : Key)) e
  rwa [kvM_val] at this
theorem kvM_dput (e : H d = some (.dK (kvM ls))) (hl : ls.length < 16777216) (k c : Nat) : DPut H d (.int (k : Nat)) (.str ⟨#[c]⟩) (upd H d (.dK (kvM (putL ls k c)))) := by
  have := DPut.k (k := (Sum.inl ((k : Nat) : Int) : Key)) (v := .str ⟨#[c]⟩) e (by unfold kvM; rw [List.length_map, sizeLine_eq]; exact hl)
  rwa [kvM_put] at this
theorem RdAt.ok (r : RdAt K CT CP CK H x h d ss f ls ob i) : (tyL ss).length ≤ 600 := by
  have h1 := tyL_small r.tx.ok
  have h2 := r.tx.few
  omega
theorem RdAt.spec (r : RdAt K CT CP CK H x h d ss f ls ob i) (hk : k < (tyL ss).length) : f k ≤ k ∧ i.hs[f k]?.getD 0 = f k ∧ f (f k) = f k := r.rt.spec k (by rw [r.len]; exact hk)
/-- the dict changes -/
theorem RdAt.put (r : RdAt K CT CP CK H x h d ss f ls ob i) (hT : CT ≠ CK) (hP : CP ≠ CK) (hk : k < (tyL ss).length) (h1 : 97 ≤ c) (h2 : c ≤ 122) : RdAt K CT CP CK (upd H d (.dK (kvM (putL ls k c)))) x h d ss f (putL ls k c) ob i := by
  have ne : ∀ {b o}, H b = some o → (∀ kvs, o ≠ .dK kvs) → b ≠ d := fun {b o} e n z => by subst z; rw [r.dl] at e; cases e; exact n _ rfl
  have B : But d H (upd H d (.dK (kvM (putL ls k c)))) := But.at But.refl
  have kh : Kh CK H (upd H d (.dK (kvM (putL ls k c)))) := fun b o _ n2 _ e => B b o (ne e n2) e
  exact ⟨B _ _ (ne r.ins fun _ z => nomatch z) r.ins, r.tx.kh hT hP kh, B _ _ (ne r.hl fun _ z => nomatch z) r.hl, upd_same, kh.tup r.sn, r.obs.kh kh, r.rt, r.len, r.lok.put hk h1 h2⟩
theorem rd_sortNatN {M : List Nat} (h : H l = some (.lst (natV M))) (hm : M.Pairwise (· < ·)) (q : ∀ p H', Same H H' → H p = none → H' p = some (.lst (natV M)) → Q (.ref p) H') : rSortedI K [.ref l] H Q := by
  refine ⟨l, M.map fun m => ((m : Nat) : Int), rfl, SqL.of (by rw [h, natV_ints]), fun ns p hpn hr hn => ?_⟩
  have e : ns = M.map fun m => ((m : Nat) : Int) := by
    have hM : (M.map fun m => ((m : Nat) : Int)).Pairwise (· < ·) := List.pairwise_map.mpr (hm.imp fun h => by omega)
    have nd : ns.Nodup := hpn.nodup_iff.mpr (hM.imp fun h => by omega)
    exact rising_unique (lt := fun a b : Int => a < b) (fun a => by omega) (fun a b c => by omega) ((hr.and nd).imp fun h => by omega) hM fun x => hpn.mem_iff
  rw [e, ← natV_ints]
  exact q p _ (Same.new (Same.refl _) hn) hn upd_same
theorem Same.back {H1 : Hp} {a : Addr} (S : Same H H1) (h : H1 a = none) : H a = none := by
  cases e : H a with
  | none => rfl
  | some o => rw [S _ _ e] at h; cases h
/-- the row of observations changes -/
theorem RdAt.seen {s : Addr} {ms : List V} {ob' : List Obs} (r : RdAt K CT CP CK H x h d ss f ls ob i) (hT : CT ≠ CK) (hP : CP ≠ CK) (b : But x H H') (e : H' x = some (.ins CK i.dx (rdF (.ref i.t) (.ref h) (.ref d) (.ref s)))) (hq : SqT K H s ms) (ho : ObsAt K H ms ob') :
    RdAt K CT CP CK H' x h d ss f ls ob' { i with s := s, sm := ms } := by
  have km : Km CK [] H H' := Km.but b r.ins
  exact ⟨e, r.tx.km hT hP km, km.li nr_natV r.hl, km.keep _ _ id (fun _ z => nomatch z) (fun _ _ z => nomatch z) r.dl, km.tup hq, ⟨ho.1, fun j o q => let ⟨b, e, g⟩ := ho.2 j o q; ⟨b, e, km.tup g⟩⟩, r.rt, r.len, r.lok⟩
end
end L2.Px
set_option Elab.async false
set_option linter.all false
set_option maxRecDepth 100000
set_option maxHeartbeats 1000000
namespace L2.Px
open PySem PySem.Spec PyProof.Rows StX TL ClX LamX
theorem ip_mul {X : Cx} : PIp X .Mult (rI CMul fun i j => .int (i * j)) := iop_mul
/-- the letters behind a word seen from a place on -/
def lsW (f : Nat → Nat) (ss : List Stp) : Nat → List Nat → List (Nat × Nat) → List (Nat × Nat)
  | _, [], ls => ls
  | p, c :: r, ls => lsW f ss (p + 1) r (putL ls (f (kat ss p)) c)
/-- no letter of the word is against what is known -/
def okW (f : Nat → Nat) (ss : List Stp) : Nat → List Nat → List (Nat × Nat) → Prop
  | _, [], _ => True
  | p, c :: r, ls => (∀ c', gL ls (f (kat ss p)) = some c' → c' = c) ∧ okW f ss (p + 1) r (putL ls (f (kat ss p)) c)
/-- the letters behind two keys tied -/
def hearL (f : Nat → Nat) (ls : List (Nat × Nat)) (a b : Nat) : List (Nat × Nat) := match gL ls (max (f a) (f b)) with
  | some c => putL ls (min (f a) (f b)) c
  | none => ls
/-- the letter of a key, or none -/
def optL : Option Nat → V
  | some c => .str ⟨#[c]⟩
  | none => .non
def sureB (f : Nat → Nat) (ls : List (Nat × Nat)) (a b : Nat) : Bool := decide (f a = f b) || ((gL ls (f a)).isSome && decide (gL ls (f a) = gL ls (f b)))
/-- the steps with a letter for each key, from key n on -/
def withS (g : Nat → Nat) : Nat → List Stp → List Stp
  | _, [] => []
  | n, .wr w :: r => .wr (mkS ((List.range w.length).map fun i => g (n + i))) :: withS g (n + w.length) r
  | n, .pa f l t :: r => .pa f l t :: withS g n r
theorem withS_len (g : Nat → Nat) : ∀ (ss : List Stp) (n : Nat), (withS g n ss).length = ss.length
  | [], _ => rfl
  | .wr w :: r, n => congrArg (· + 1) (withS_len g r (n + w.length))
  | .pa f l t :: r, n => congrArg (· + 1) (withS_len g r n)
theorem withS_snoc (g : Nat → Nat) : ∀ (ss : List Stp) (n : Nat) (s : Stp), withS g n (ss ++ [s]) = withS g n ss ++ withS g (n + (tyL ss).length) [s]
  | [], n, s => by simp [withS, tyL]
  | .wr w :: r, n, s => by
    have h := withS_snoc g r (n + w.length) s
    have hl : (tyL (.wr w :: r)).length = w.length + (tyL r).length := by
      rw [show tyL (.wr w :: r) = ty1 (.wr w) ++ tyL r from rfl, List.length_append]; rfl
    show _ :: withS g (n + w.length) (r ++ [s]) = _ :: (withS g (n + w.length) r ++ _)
    rw [h, hl, Nat.add_assoc]
  | .pa f l t :: r, n, s => by
    have h := withS_snoc g r n s
    have hl : (tyL (.pa f l t :: r)).length = (tyL r).length := by simp [tyL, ty1]
    show _ :: withS g n (r ++ [s]) = _ :: (withS g n r ++ _)
    rw [h, hl]
theorem withS_sz (g : Nat → Nat) : ∀ (ss : List Stp) (n : Nat), sz (withS g n ss) = sz ss
  | [], _ => rfl
  | .wr w :: r, n => by
    show len1 _ + sz _ = len1 _ + sz _
    rw [withS_sz g r]
    congr 1
    show (mkS _).length = w.length
    rw [mkS_len, List.length_map, List.length_range]
  | .pa f l t :: r, n => by show len1 _ + sz _ = len1 _ + sz _; rw [withS_sz g r]
theorem withS_ok (g : Nat → Nat) (N : Nat) (hg : ∀ k, k < N → 97 ≤ g k ∧ g k ≤ 122) : ∀ (ss : List Stp) (n m : Nat), okFrom m ss → n + (tyL ss).length ≤ N → okFrom m (withS g n ss)
  | [], _, _, _, _ => trivial
  | .wr w :: r, n, m, ok, hN => by
    have hl : (tyL (.wr w :: r)).length = w.length + (tyL r).length := by
      rw [show tyL (.wr w :: r) = ty1 (.wr w) ++ tyL r from rfl, List.length_append]; rfl
    rw [hl] at hN
    have el : (mkS ((List.range w.length).map fun i => g (n + i))).length = w.length := by rw [mkS_len, List.length_map, List.length_range]
    obtain ⟨⟨h1, h2, h3⟩, h4, h5⟩ := ok
    refine ⟨⟨by rw [el]; exact h1, by rw [el]; exact h2, fun c hc => ?_⟩, ?_, ?_⟩
    · rw [tl_mkS] at hc
      obtain ⟨i, hi, rfl⟩ := List.mem_map.mp hc
      have := List.mem_range.mp hi
      exact hg _ (by omega)
    · show m + (mkS _).length ≤ _; rw [el]; exact h4
    · show okFrom (m + (mkS _).length) _
      rw [el]
      exact withS_ok g N hg r _ _ h5 (by omega)
  | .pa f l t :: r, n, m, ok, hN => ⟨ok.1, ok.2.1, withS_ok g N hg r _ _ ok.2.2 (by simpa [tyL, ty1] using hN)⟩
theorem withS_tyL (g : Nat → Nat) : ∀ (ss : List Stp) (n : Nat), tyL (withS g n ss) = (List.range (tyL ss).length).map fun i => g (n + i)
  | [], _ => rfl
  | .wr w :: r, n => by
    have hl : (tyL (.wr w :: r)).length = w.length + (tyL r).length := by
      rw [show tyL (.wr w :: r) = ty1 (.wr w) ++ tyL r from rfl, List.length_append]; rfl
    rw [hl]
    show tl (mkS _) ++ tyL (withS g (n + w.length) r) = _
    rw [tl_mkS, withS_tyL g r]
    apply List.ext_getElem
    · simp
    · intro i h1 h2
      rw [List.getElem_append]
      simp only [List.length_map, List.length_range] at h1 h2 ⊢
      split
      · simp
      · simp; congr 1; omega
  | .pa f l t :: r, n => by
    have h := withS_tyL g r n
    have hl : tyL (.pa f l t :: r) = tyL r := by simp [tyL, ty1]
    rw [hl]
    show tyL (.pa f l t :: withS g n r) = _
    rw [show tyL (.pa f l t :: withS g n r) = tyL (withS g n r) by simp [tyL, ty1]]
    exact h
/-- all letters as they are -/
theorem withS_id {g : Nat → Nat} : ∀ (ss : List Stp) (n : Nat), (∀ i, i < (tyL ss).length → g (n + i) = (tyL ss)[i]?.getD 0) → withS g n ss = ss
  | [], _, _ => rfl
  | .wr w :: r, n, h => by
    have hl : tyL (.wr w :: r) = tl w ++ tyL r := rfl
    have lw := len_tl w
    rw [hl] at h
    show Stp.wr _ :: withS g (n + w.length) r = _
    rw [withS_id r (n + w.length) fun i hi => by
      have := h (w.length + i) (by rw [List.length_append, lw]; omega)
      rw [List.getElem?_append_right (by omega), lw, Nat.add_sub_cancel_left] at this
      rw [Nat.add_assoc]; exact this]
    congr 2
    have e : (List.range w.length).map (fun i => g (n + i)) = tl w := by
      apply List.ext_getElem
      · simp [lw]
      · intro i h1 h2
        rw [List.getElem_map, List.getElem_range]
        have := h i (by rw [List.length_append]; omega)
        rw [List.getElem?_append_left h2, List.getElem?_eq_getElem h2] at this
        exact this
    rw [e]; exact mkS_tl w
  | .pa f l t :: r, n, h => by
    have hl : tyL (.pa f l t :: r) = tyL r := by simp [tyL, ty1]
    rw [hl] at h
    show Stp.pa f l t :: withS g n r = _
    rw [withS_id r n h]
section
variable {f : Nat → Nat} {ls : List (Nat × Nat)} {ss : List Stp} {n a b k p : Nat} {w : List Nat}
theorem LsOk.hear (h : LsOk n ls) (ha : f a < n) (hb : f b < n) : LsOk n (hearL f ls a b) := by
  unfold hearL
  split
  · rename_i c e
    have := h.let e
    exact h.put (by omega) this.2.1 this.2.2
  · exact h
theorem lsW_snoc : ∀ (w : List Nat) (p c : Nat) (ls : List (Nat × Nat)), lsW f ss p (w ++ [c]) ls = putL (lsW f ss p w ls) (f (kat ss (p + w.length))) c
  | [], p, c, ls => rfl
  | x :: r, p, c, ls => by
    show lsW f ss (p + 1) (r ++ [c]) _ = putL (lsW f ss (p + 1) r _) _ c
    rw [lsW_snoc r, show p + 1 + r.length = p + (x :: r).length by simp only [List.length_cons]; omega]
theorem okW_at : ∀ {w : List Nat} {p : Nat} {ls : List (Nat × Nat)} {i c : Nat}, okW f ss p w ls → w[i]? = some c → ∀ c', gL (lsW f ss p (w.take i) ls) (f (kat ss (p + i))) = some c' → c' = c
  | [], _, _, _, _, _, h => by simp at h
  | x :: r, p, ls, 0, c, o, h => by cases h; exact o.1
  | x :: r, p, ls, i + 1, c, o, h => by
    have := okW_at (i := i) o.2 (by simpa using h)
    rw [show p + (i + 1) = p + 1 + i by omega]
    exact this
end
section
variable (K : PySem.W.Frag) (CT CP CK : Addr)
def sp_KeyReader_getitem : Sp := fun vs H Q _ => ∃ x h d ss f ls ob, ∃ p : Nat, vs = [.ref x, .int p] ∧ Reader K CT CP CK H x h d ss f ls ob ∧ p < sz ss ∧ ∀ H', Same H H' → Q (optL (gL ls (f (kat ss p)))) H'
def sp_KeyReader_see_word : Sp := fun vs H Q _ => ∃ x h d ss f ls ob, ∃ (p : Nat) (w : List Nat), vs = [.ref x, .int p, .str (mkS w)] ∧ Reader K CT CP CK H x h d ss f ls ob ∧ p + w.length ≤ sz ss ∧ 1 ≤ w.length ∧ w.length ≤ 20 ∧ (∀ c ∈ w, 97 ≤ c ∧ c ≤ 122) ∧ okW f ss p w ls ∧ ob.length < 10000 ∧
  ∀ H', Bt [x, h, d] H H' → Reader K CT CP CK H' x h d ss f (lsW f ss p w ls) (ob ++ [.word p w]) → Q (.int (knownN f (lsW f ss p w ls) (tyL ss).length : Nat)) H'
def sp_KeyReader_count_texts : Sp := fun vs H Q _ => ∃ x h d ss f ls ob, vs = [.ref x] ∧ Reader K CT CP CK H x h d ss f ls ob ∧ ∀ H', Same H H' → Q (.int (26 ^ (openH f ls (tyL ss).length).length : Nat)) H'
def sp_KeyReader_hear_alike : Sp := fun vs H Q _ => ∃ x h d ss f ls ob, ∃ p q : Nat, vs = [.ref x, .int p, .int q] ∧ Reader K CT CP CK H x h d ss f ls ob ∧ p < sz ss ∧ q < sz ss ∧ (∀ c c', gL ls (f (kat ss p)) = some c → gL ls (f (kat ss q)) = some c' → c = c') ∧ ob.length < 10000 ∧
  ∀ H', Bt [x, h, d] H H' → Reader K CT CP CK H' x h d ss (tieF f (kat ss p) (kat ss q)) (hearL f ls (kat ss p) (kat ss q)) (ob ++ [.alike p q]) → Q (.int (26 ^ (openH (tieF f (kat ss p) (kat ss q)) (hearL f ls (kat ss p) (kat ss q)) (tyL ss).length).length : Nat)) H'
def sp_KeyReader_is_surely_alike : Sp := fun vs H Q _ => ∃ x h d ss f ls ob, ∃ p q : Nat, vs = [.ref x, .int p, .int q] ∧ Reader K CT CP CK H x h d ss f ls ob ∧ p < sz ss ∧ q < sz ss ∧ ∀ H', Same H H' → Q (.bl (sureB f ls (kat ss p) (kat ss q))) H'
def sp_KeyReader_text_with : Sp := fun vs H Q _ => ∃ x h d ss f ls ob, ∃ c : Nat, vs = [.ref x, .str ⟨#[c]⟩] ∧ Reader K CT CP CK H x h d ss f ls ob ∧ 97 ≤ c ∧ c ≤ 122 ∧ ∀ b H', Same H H' → TX K CT CP H' b (withS (fun k => (gL ls (f k)).getD c) 0 ss) → Q (.ref b) H'
end
section
variable {K : PySem.W.Frag} {CT CP CE CK C : Addr} {H H' : Hp} {x h d l p : Addr} {ss : List Stp} {f : Nat → Nat} {ls : List (Nat × Nat)} {ob : List Obs} {i : RdI} {Q : VK} {E : XK} {k c a b : Nat}
/-- the heads change -/
theorem RdAt.tie (r : RdAt K CT CP CK H x h d ss f ls ob i) (hT : CT ≠ CK) (hP : CP ≠ CK) (ha : a < (tyL ss).length) (hb : b < (tyL ss).length) :
    RdAt K CT CP CK (upd H h (.lst (natV (i.hs.set (max (f a) (f b)) (min (f a) (f b)))))) x h d ss (tieF f a b) ls ob { i with hs := i.hs.set (max (f a) (f b)) (min (f a) (f b)) } := by
  have hl := r.len
  have B : But h H (upd H h (.lst (natV (i.hs.set (max (f a) (f b)) (min (f a) (f b)))))) := But.at But.refl
  have ne : ∀ {b o}, H b = some o → (∀ y L, o ≠ .lst (natV (y :: L))) → b ≠ h := fun {b o} e n z => by
    subst z; rw [r.hl] at e; cases e
    cases hh : i.hs with
    | nil => rw [hh] at hl; simp at hl; omega
    | cons y L => exact n y L (by rw [hh])
  have kh : Kh CK H (upd H h (.lst (natV (i.hs.set (max (f a) (f b)) (min (f a) (f b)))))) := fun b o _ _ n3 e => B b o (ne e n3) e
  exact ⟨B _ _ (ne r.ins fun _ _ z => nomatch z) r.ins, r.tx.kh hT hP kh, upd_same, B _ _ (ne r.dl fun _ _ z => nomatch z) r.dl, kh.tup r.sn, r.obs.kh kh, r.rt.tie (by rw [r.len]; exact ha) (by rw [r.len]; exact hb), by show (i.hs.set _ _).length = _; rw [List.length_set]; exact r.len, r.lok⟩
end
end L2.Px
set_option Elab.async false
set_option linter.all false
set_option maxRecDepth 100000
set_option maxHeartbeats 1000000
namespace L2.Px
open PySem PySem.Spec PyProof.Rows StX TL ClX LamX
section
variable {X : Cx} {K : PySem.W.Frag}
def tLenSetU (K : PySem.W.Frag) (ta : TE) : TE := fun σ H Q => ta σ H fun x H1 => ∃ (l : Addr) (ns : List Int), x = V.ref l ∧ SqL K H1 l (ns.map V.int) ∧ ns.length ≤ 4000 ∧ Q (.int ((PySem.W.ossOf ns).length : Nat)) H1
theorem pe_lenSetU {a : Expr} {ta : TE} {p p2 q pos : Pos} (hk : X.K = K) (hc : X.calm = true) (hg : Gl X "len") (hm : X.mg "len" = none) (hg2 : Gl X "set") (hm2 : X.mg "set" = none) (ha : PE X a ta)
    (na : starEach [a] X.env = (false, eval a X.env) :: starEach [] X.env := by rfl) : PE X (.Call (.Name "len" p) [.Call (.Name "set" p2) [a] [] q] [] pos) (tLenSetU K ta) := by
  subst hk
  refine ⟨fun pins s σ H Q I h => ?_⟩
  refine Call_ (ld_blt I hg hm boot_len ?_)
  refine PyProof.Rows.callWith_builtin1 (PyProof.Rows.args_cons ?_ rfl) rfl rfl
  refine Call_ (ld_blt I hg2 hm2 boot_set ?_)
  refine PyProof.Rows.callWith_type1 (PyProof.Rows.args_cons (thn (ha.run pins s σ H _ I h) fun v s1 ⟨x, H1, I1, r1, q1⟩ => PyProof.Rows.args_nil ?_) na) na rfl
  obtain ⟨l, ns, rfl, hq, h1, q1⟩ := q1
  cases r1
  obtain ⟨its, r, pl, hz⟩ := I1.list hq
  have hl : its.toArray.size = ns.length := by rw [List.size_toArray, ← r.length, List.length_map]
  refine call_set_list (I1.ok.hd hc) pl.isList (ns := ns) (by simpa using r.ints) (by unfold scanBound; omega) fun h' tk hS hk => ?_
  rw [hl, PySem.W.oss_met] at hS
  refine PyProof.Rows.args_nil ?_
  obtain ⟨o, es, ep, t, ho, hex, hd, _, _, _, hf, hn⟩ := hS
  have hle := PySem.W.oss_len ns
  have I2 : Inv X pins σ H1 { s1 with heap := h', toks := tk } := I1.kept fun b o e => hk b o (Heap.lt_size e) e
  exact call_len_set ho hex hd hf (by rw [hn] <;> omega) ⟨.int ((PySem.W.ossOf ns).length : Nat), H1, I2.tok _, ⟨_, by rw [hn]⟩, q1⟩
end
theorem oss_nd (l : List Int) : (PySem.W.ossOf l).Nodup := by
  refine rev_ind (motive := fun l => (PySem.W.ossOf l).Nodup) List.Pairwise.nil (fun l a ih => ?_) l
  rw [PySem.W.oss_next]
  split
  · exact ih
  · rename_i h
    rw [List.nodup_append]
    exact ⟨ih, List.pairwise_singleton _ _, fun x hx y hy => by rw [List.mem_singleton.mp hy]; intro e; exact h (e ▸ hx)⟩
theorem oss_count {l : List Int} {M : List Nat} (hM : M.Nodup) (h : ∀ x : Int, x ∈ l ↔ ∃ m ∈ M, x = (m : Nat)) : (PySem.W.ossOf l).length = M.length := by
  have e1 : (PySem.W.ossOf l).length ≤ (M.map fun m => ((m : Nat) : Int)).length := nodup_len (oss_nd l) fun x hx => by
    obtain ⟨m, hm, rfl⟩ := (h x).mp (PySem.W.oss_has.mp hx)
    exact List.mem_map.mpr ⟨m, hm, rfl⟩
  have e2 : (M.map fun m => ((m : Nat) : Int)).length ≤ (PySem.W.ossOf l).length := nodup_len (List.pairwise_map.mpr (hM.imp fun h z => h (by omega))) fun x hx => by
    obtain ⟨m, hm, rfl⟩ := List.mem_map.mp hx
    exact PySem.W.oss_has.mpr ((h _).mpr ⟨m, hm, rfl⟩)
  rw [List.length_map] at e1 e2
  omega
section
variable {X : Cx} {K : PySem.W.Frag}
/-- sorted(d) of a dict whose keys are ints, however many -/
def rSortDI (K : PySem.W.Frag) : List V → Hp → VK → Prop := fun xs H Q => ∃ (a : Addr) (kvs : List (Key × V)) (ks : List Int), xs = [.ref a] ∧ Rd H a (.dK kvs) ∧ kvs.map (·.1) = ks.map Sum.inl ∧
    ∀ (ys : List Int) (p : Addr), ys.Perm ks → ys.Pairwise (· ≤ ·) → H p = none → Q (.ref p) (upd H p (.lst (ys.map V.int)))
theorem sortDI_any (hk : X.K = K) (hcalm : X.calm = true) : CallR X (.builtin "sorted") (rSortDI K) := by
  subst hk
  intro pins s σ H xs us Q I r q
  obtain ⟨a, kvs, ks, ex, hd, hks, q⟩ := q
  subst ex
  obtain ⟨u, eu, rx⟩ := vals1 r
  subst eu
  cases rx
  obtain ⟨z, lo, vs, rel, dd⟩ := dk_rd I.hok hd
  obtain ⟨ep, hat⟩ := dd.dictAt
  have hkeys : vs.map (·.1) = ks.map Sum.inl := rel.keys.symm.trans hks
  have hl : vs.length = ks.length := by
    have e := congrArg List.length hkeys
    rw [List.length_map, List.length_map] at e
    exact e
  have hlk : kvs.length = ks.length := by
    have e := congrArg List.length hks
    rw [List.length_map, List.length_map] at e
    exact e
  have h16 : vs.length ≤ sizeLine := by rw [hl, ← hlk]; exact z
  refine Calls.call_function_entry PyProof.Rows.kind_sorted PyProof.Rows.plain_sorted PyProof.Rows.entry_sorted (PyProof.Rows.args_sorted1 _) ?_
  unfold Builtin.«sorted»
  refine wpAny_bind (m := checkCount "sorted" 1 1 _) (wpAny_pure ?_)
  refine wpAny_bind (PySem.W.kdu_collect (A := X.A.in1) (PySem.W.kdl_dict (knd := mixKind X.prog X.w) (kvs := vs) (ep := ep) lo) (I.ok.hd hcalm) hat h16 fun h' tk acc hk hacc => ?_)
  have hal : acc.toList.length = ks.length := by rw [Array.length_toList, hacc.1, hl]
  have hS : IntsAre acc.toList ks := ints_each hal fun j v e => by
    obtain ⟨k, x, e1, e2⟩ := hacc.2 j v (by rw [← Array.getElem?_toList]; exact e)
    have e3 : (vs.map (·.1))[j]? = some k := by rw [List.getElem?_map, e1]; rfl
    rw [hkeys, List.getElem?_map] at e3
    cases e4 : ks[j]? with
    | none => rw [e4] at e3; cases e3
    | some y =>
      rw [e4] at e3
      have e5 : Sum.inl y = k := Option.some.inj e3
      subst e5
      rcases keyIs_shape (show keyIs (Sum.inl y) v = true from e2) with ⟨i, t, ek, ev⟩ | ⟨z, t, ek, ev⟩
      · cases ek
        exact ⟨y, t, rfl, ev⟩
      · cases ek
  have I1 : Inv X pins σ H { s with heap := h', toks := tk } := I.kept hk
  have hzz : acc.toList.length ≤ sizeLine := by rw [hal, ← hl]; exact h16
  refine wpAny_bind (wpAny_newList ?_ hzz)
  have hoL : (h'.push (seqObj "list" acc.toList.toArray 0)).get? h'.objs.size = some (seqObj "list" acc.toList.toArray 0) := Heap.get?_push_size _ rfl
  show wpAny _ _ _ _ _ { s with heap := h'.push (seqObj "list" acc.toList.toArray 0), toks := tk }
  refine wpAny_bind (wpAny_holding (wpAny_call_entry PyProof.Rows.slot_list_sort ⟨_, hoL, rfl⟩ PyProof.Rows.entry_list_sort
    (SrtO.list_sort_ord (s := { s with heap := h'.push (seqObj "list" acc.toList.toArray 0), toks := tk }) SrtO.swo_int hoL hzz (fun h2 => SrtO.ints_sortable hS h2) fun out h1 h2 => ⟨_, rfl, ?_⟩) (PyProof.Rows.args_list_sort _)))
  obtain ⟨g1, g2, g3⟩ := SrtO.ints_out hS h1 h2
  obtain ⟨e', he'⟩ := PyProof.Rows.sortedHeap_at (vs := acc.toList) (out := out.toArray) hoL
  have hlen : ((out.map SrtO.iv).map V.int).length ≤ sizeLine := by
    rw [List.length_map, g2.length_eq, ← hal]
    exact hzz
  refine wpAny_pure ⟨_, rfl, .ref h'.objs.size, upd H h'.objs.size (.lst ((out.map SrtO.iv).map V.int)), I1.laid (t' := tk) (fun b u e => ?_) (Nat.le_refl _)
    (show ObjOk X.prog X.w _ _ _ (.lst ((out.map SrtO.iv).map V.int)) from ⟨hlen, out, e', vals_of_ints g1, he'⟩), rfl, q _ _ g2 g3 (I1.hok.fresh (Nat.le_refl _))⟩
  have hb : b < h'.objs.size := Heap.lt_size e
  rw [PyProof.Rows.sortedHeap_old (Nat.ne_of_lt hb) (by rw [size_push']; exact Nat.lt_succ_of_lt hb)]
  exact Heap.get?_push_of_some _ e
end
end L2.Px
set_option Elab.async false
set_option linter.all false
set_option maxRecDepth 100000
set_option maxHeartbeats 2000000
namespace L2.Px
open PySem PySem.Spec PyProof.Rows StX LamX
end L2.Px
set_option Elab.async false
set_option linter.all false
set_option maxRecDepth 100000
set_option maxHeartbeats 1000000
namespace L2.Px
open PySem PySem.Spec PyProof.Rows StX
end L2.Px
set_option Elab.async false
set_option linter.all false
set_option maxRecDepth 100000
set_option maxHeartbeats 1000000
namespace L2.Px
open PySem PySem.Spec PyProof.Rows StX TL
section
variable {K : PySem.W.Frag} {H H' H1 H2 : Hp} {Q : VK} {E : XK} {r l D : Addr} {i : Int} {xs : List V}
theorem RowAt.ne (h : RowAt K H r) (hD : H D = none) : r ≠ D := fun z => by
  subst z
  obtain ⟨sa, sc, i, s, n, a, b⟩ := h.ex
  rw [hD] at a; cases a
end
end L2.Px
set_option Elab.async false
set_option linter.all false
set_option maxRecDepth 100000
set_option maxHeartbeats 1000000
namespace L2.Px
open PySem PySem.Spec PyProof.Rows StX TL
section
variable {K : PySem.W.Frag} {CIS CTL CIP CIL CT CP CE : Addr} {H H' : Hp} {Q : VK} {E : XK} {e t l : Addr} {ss tt : List Stp} {ds us d' u' : List Ent} {en : Ent} {ms rs : List V} {os : List Op} {p c : Nat} {w : Str} {f z n : Nat}
theorem OpsAt.steps (h : StepsAt K H ms ss) : OpsAt K H ms (ss.map .st) := by
  refine ⟨by rw [List.length_map]; exact h.1, fun j o hj => ?_⟩
  rw [List.getElem?_map] at hj
  cases hs : ss[j]? with
  | none => rw [hs] at hj; cases hj
  | some s =>
    rw [hs] at hj; cases hj
    obtain ⟨v, a, b, c, d⟩ := h.2 j s hs
    exact ⟨v, a, b, c, d⟩
theorem OpsAt.nil : OpsAt K H [] [] := ⟨rfl, fun _ _ h => by simp at h⟩
end
end L2.Px
set_option Elab.async false
set_option linter.all false
set_option maxRecDepth 100000
set_option maxHeartbeats 1000000
namespace L2.Px
open PySem PySem.Spec PyProof.Rows StX TL
/-- a step typed as a, b, c, z -/
def okL1 (s : Stp) : Prop := ∀ c ∈ ty1 s, c = 97 ∨ c = 98 ∨ c = 99 ∨ c = 122
theorem okLs.nil : okLs [] := fun c h => by cases h
theorem okLs.snoc {ss : List Stp} {s : Stp} (h : okLs ss) (g : okL1 s) : okLs (ss ++ [s]) := fun c hc => by
  rw [tyL_append] at hc
  rcases List.mem_append.mp hc with hc | hc
  · exact h c hc
  · exact g c (by simpa [tyL] using hc)
theorem okL1.wr {x : Str} {m : Nat} (hx : okWord x m) : okL1 (.wr x) := fun c hc => hx.2.2 c hc
theorem okL1.pa {f l t : Nat} : okL1 (.pa f l t) := fun c hc => by cases hc
end L2.Px
set_option Elab.async false
set_option linter.all false
set_option maxRecDepth 100000
set_option maxHeartbeats 2000000
namespace L2.Px
open PySem PySem.Spec PyProof.Rows StX ClX LamX
def toW : List Str := ["InvalidStep", "InvalidOperation", "DecodeError", "NotationError", "TooLong", "InvalidPlace", "InvalidLetter", "Contradiction", "InvalidCount"]
/-- what _law_told answers of the exception of the class cls, its dict d -/
def ToAns (K : PySem.W.Frag) (CT : Addr) (Cs : List Addr) (cls : Value) (d : Option Addr) (H : Hp) (Q : VK) : Prop := ∃ (i : Nat) (D : Addr) (w : Str), cls = .ref D ∧ RzC K CT Cs i D ∧ toW[i]? = some w ∧
  ((i < 2 ∧ RzF K D "index" ∧ ∃ (dd : Addr) (n : Int) (fs : List (Str × V)), d = some dd ∧ H dd = some (.xd fs) ∧ fs.lookup ("index" : Str) = some (.int n) ∧ ∀ p H', Same H H' → H' p = some (.tup [.str "error", .str w, .int n]) → Q (.ref p) H') ∨
    (i = 2 ∧ RzF K D "offset" ∧ ∃ (dd : Addr) (n : Int) (fs : List (Str × V)), d = some dd ∧ H dd = some (.xd fs) ∧ fs.lookup ("offset" : Str) = some (.int n) ∧ ∀ p H', Same H H' → H' p = some (.tup [.str "error", .str w, .int n]) → Q (.ref p) H') ∨
    (i = 3 ∧ RzF K D "row" ∧ RzF K D "word" ∧ ∃ (dd : Addr) (n m : V) (fs : List (Str × V)), d = some dd ∧ H dd = some (.xd fs) ∧ fs.lookup ("row" : Str) = some n ∧ fs.lookup ("word" : Str) = some m ∧ ∀ p H', Same H H' → H' p = some (.tup [.str "error", .str w, n, m]) → Q (.ref p) H') ∨
    (4 ≤ i ∧ d = none ∧ ∀ p H', Same H H' → H' p = some (.tup [.str "error", .str w]) → Q (.ref p) H'))
theorem ToAns.dict {K : PySem.W.Frag} {CT : Addr} {Cs : List Addr} {cls : Value} {d : Option Addr} {H : Hp} {Q : VK} (h : ToAns K CT Cs cls d H Q) : d = none ∨ ∃ dd fs, d = some dd ∧ H dd = some (.xd fs) := by
  obtain ⟨i, D, w, _, _, _, ⟨_, _, dd, n, fs, e, hx, _⟩ | ⟨_, _, dd, n, fs, e, hx, _⟩ | ⟨_, _, _, dd, n, m, fs, e, hx, _⟩ | ⟨_, e, _⟩⟩ := h
  · exact .inr ⟨dd, fs, e, hx⟩
  · exact .inr ⟨dd, fs, e, hx⟩
  · exact .inr ⟨dd, fs, e, hx⟩
  · exact .inl e
end L2.Px
set_option Elab.async false
set_option linter.all false
set_option maxRecDepth 100000
set_option maxHeartbeats 4000000
namespace L2.Px
open PySem PySem.Spec PyProof.Rows PySem.Froz
end L2.Px
set_option Elab.async false
set_option linter.all false
set_option maxRecDepth 100000
set_option maxHeartbeats 2000000
namespace L2.Px
open PySem PySem.Spec PyProof.Rows StX TL
end L2.Px
namespace L2.Px
open PySem PySem.Spec PyProof.Rows StX TL
end L2.Px
namespace L2.Px
open PySem PySem.Spec PyProof.Rows StX TL
end L2.Px
set_option Elab.async false
set_option linter.all false
set_option maxRecDepth 100000
set_option maxHeartbeats 2000000
namespace L2.Px
open PySem PySem.Spec PyProof.Rows StX TL
/-- the list at l holds lists, all of them new since H0 -/
structure ClsN (H0 H : Hp) (l : Addr) (cs : List (List Nat)) : Prop where
  new : H0 l = none
  at_ : ∃ as : List Addr, H l = some (.lst (as.map V.ref)) ∧ as.length = cs.length ∧ ∀ (i : Nat) c, cs[i]? = some c → ∃ a, as[i]? = some a ∧ H a = some (.lst (natV c)) ∧ H0 a = none
section
variable {K : PySem.W.Frag} {CI CT CP : Addr} {H H' H0 H1 : Hp} {a b l r p D : Addr} {L M : List Nat} {Q : VK} {E : XK} {cs : List (List Nat)} {n : Nat} {f : Nat → Nat} {cl : Nat → Addr} {i j : Int} {ss tt : List Stp} {ch : List (Nat × Nat)}
theorem ClsN.cls (h : ClsN H0 H l cs) : ClsAt H l cs := let ⟨_, as, e, n, g⟩ := h; ⟨as, e, n, fun i c hc => let ⟨a, x, y, _⟩ := g i c hc; ⟨a, x, y⟩⟩
theorem ClsN.mono (h : ClsN H0 H l cs) (S : Same H H') : ClsN H0 H' l cs := let ⟨z, as, e, n, g⟩ := h; ⟨z, as, S _ _ e, n, fun i c hc => let ⟨a, x, y, w⟩ := g i c hc; ⟨a, x, S _ _ y, w⟩⟩
variable (K CI CT CP)
variable {K CI CT CP}
end
end L2.Px
set_option Elab.async false
set_option linter.all false
set_option maxRecDepth 100000
set_option maxHeartbeats 2000000
namespace L2.Px
open PySem PySem.Spec PyProof.Rows StX TL
/-- a list of these four items could be taken for a row only if its first item is a number -/
def goodL (ds : List PyData) : Prop := ∀ d0 i j k, ds = [d0, .int i, .int j, .int k] → ∃ n, d0 = .int n
/-- v is the data d, to a depth; made of numbers, texts, tuples, lists -/
def Dd (K : PySem.W.Frag) (H : Hp) : Nat → V → PyData → Prop
  | 0, _, _ => False
  | n + 1, v, d => (∃ i, v = .int i ∧ d = .int i) ∨ (∃ x, v = .str x ∧ d = .str x ∧ x.length ≤ sizeLine) ∨
    (∃ a xs ds, v = .ref a ∧ d = .tuple ds ∧ SqT K H a xs ∧ xs.length = ds.length ∧ xs.length ≤ sizeLine ∧ ∀ (i : Nat) x e, xs[i]? = some x → ds[i]? = some e → Dd K H n x e) ∨
    ∃ a xs ds, v = .ref a ∧ d = .list ds ∧ H a = some (.lst xs) ∧ goodL ds ∧ xs.length = ds.length ∧ xs.length ≤ sizeLine ∧ ∀ (i : Nat) x e, xs[i]? = some x → ds[i]? = some e → Dd K H n x e
section
variable {K : PySem.W.Frag} {H H' : Hp} {a b : Addr} {xs : List V} {ds : List PyData} {Q : VK} {E : XK}
theorem Dd.mono (S : Same H H') : ∀ {n : Nat} {v : V} {d : PyData}, Dd K H n v d → Dd K H' n v d
  | 0, _, _, h => h.elim
  | n + 1, _, _, h => by
    rcases h with h | h | ⟨a, xs, ds, h1, h2, h3, h4, h5, h6⟩ | ⟨a, xs, ds, h1, h2, h3, h4, h5, h6, h7⟩
    · exact .inl h
    · exact .inr (.inl h)
    · exact .inr (.inr (.inl ⟨a, xs, ds, h1, h2, Same.tup S h3, h4, h5, fun i x e p q => Dd.mono S (h6 i x e p q)⟩))
    · exact .inr (.inr (.inr ⟨a, xs, ds, h1, h2, S _ _ h3, h4, h5, h6, fun i x e p q => Dd.mono S (h7 i x e p q)⟩))
theorem Dd.ref_no {n : Nat} {i : Int} (h : Dd K H n (.ref a) (.int i)) : False := by
  cases n with
  | zero => exact h
  | succ n => rcases h with ⟨_, z, _⟩ | ⟨_, z, _⟩ | ⟨_, _, _, _, z, _⟩ | ⟨_, _, _, _, z, _⟩ <;> cases z
theorem Dd.int_at {n : Nat} {i : Int} {d : PyData} (h : Dd K H n (.int i) d) : d = .int i := by
  cases n with
  | zero => exact h.elim
  | succ n => rcases h with ⟨_, z, e⟩ | ⟨_, z, _⟩ | ⟨_, _, _, z, _⟩ | ⟨_, _, _, z, _⟩ <;> cases z; exact e
theorem dd_norow {n : Nat} (g : goodL ds) (hl : xs.length = ds.length) (h : ∀ (i : Nat) x e, xs[i]? = some x → ds[i]? = some e → Dd K H n x e) : ¬ isRow (.lst xs) := by
  intro z
  unfold isRow at z
  split at z
  · rename_i e1
    cases e1
    match ds, hl with
    | [d0, d1, d2, d3], _ =>
      have h0 := h 0 _ _ rfl rfl
      have h1 := h 1 _ _ rfl rfl
      have h2 := h 2 _ _ rfl rfl
      have h3 := h 3 _ _ rfl rfl
      have e1 := h1.int_at
      have e2 := h2.int_at
      have e3 := h3.int_at
      subst e1 e2 e3
      obtain ⟨m, rfl⟩ := g _ _ _ _ rfl
      exact h0.ref_no
  · exact z
theorem Dd.kp (k : Kp H H') : ∀ {n : Nat} {v : V} {d : PyData}, Dd K H n v d → Dd K H' n v d
  | 0, _, _, h => h.elim
  | n + 1, _, _, h => by
    rcases h with h | h | ⟨a, xs, ds, h1, h2, h3, h4, h5, h6⟩ | ⟨a, xs, ds, h1, h2, h3, h4, h5, h6, h7⟩
    · exact .inl h
    · exact .inr (.inl h)
    · exact .inr (.inr (.inl ⟨a, xs, ds, h1, h2, k.tup h3, h4, h5, fun i x e p q => Dd.kp k (h6 i x e p q)⟩))
    · exact .inr (.inr (.inr ⟨a, xs, ds, h1, h2, k _ _ (dd_norow h4 h5 h7) h3, h4, h5, h6, fun i x e p q => Dd.kp k (h7 i x e p q)⟩))
end
end L2.Px
set_option Elab.async false
set_option linter.all false
set_option maxRecDepth 100000
set_option maxHeartbeats 2000000
namespace L2.Px
open PySem PySem.Spec PyProof.Rows StX TL
section
variable {K : PySem.W.Frag} {CI CT CP : Addr} {H H' H0 H1 : Hp} {a b l r p D T : Addr} {L M : List Nat} {Q : VK} {E : XK} {cs : List (List Nat)} {n m : Nat} {f : Nat → Nat} {ss tt : List Stp} {ch : List (Nat × Nat)} {v w : V} {d e : PyData} {xs : List V} {ds : List PyData}
theorem Dd.int (i : Int) : Dd K H (n + 1) (.int i) (.int i) := .inl ⟨i, rfl, rfl⟩
theorem Dd.str {x : Str} (h : x.length ≤ sizeLine) : Dd K H (n + 1) (.str x) (.str x) := .inr (.inl ⟨x, rfl, rfl, h⟩)
theorem Dd.lst (h : H l = some (.lst xs)) (g : goodL ds) (hl : xs.length = ds.length) (hz : xs.length ≤ 16777216) (q : ∀ (i : Nat) x e, xs[i]? = some x → ds[i]? = some e → Dd K H n x e) : Dd K H (n + 1) (.ref l) (.list ds) :=
  .inr (.inr (.inr ⟨l, xs, ds, rfl, rfl, h, g, hl, by rw [sizeLine_eq]; exact hz, q⟩))
theorem Dd.tup (h : SqT K H l xs) (hl : xs.length = ds.length) (hz : xs.length ≤ 16777216) (q : ∀ (i : Nat) x e, xs[i]? = some x → ds[i]? = some e → Dd K H n x e) : Dd K H (n + 1) (.ref l) (.tuple ds) :=
  .inr (.inr (.inl ⟨l, xs, ds, rfl, rfl, h, hl, by rw [sizeLine_eq]; exact hz, q⟩))
end
end L2.Px
namespace L2.Px
open PySem PySem.Spec PyProof.Rows StX TL
/-- a new list, not p -/
def FrL (p : Addr) (H0 H : Hp) (l : Addr) : Prop := H0 l = none ∧ l ≠ p ∧ ∃ xs : List V, H l = some (.lst xs) ∧ xs.length ≤ 10000
/-- a new list of new lists -/
def FrC (p : Addr) (H0 H : Hp) (l : Addr) : Prop := FrL p H0 H l ∧ ∃ ms : List Addr, H l = some (.lst (ms.map V.ref)) ∧ ms.length ≤ 10000 ∧ ∀ m ∈ ms, FrL p H0 H m
section
variable {K : PySem.W.Frag} {CI CT CP : Addr} {H H' H0 H1 : Hp} {a b l r p D T : Addr} {L M : List Nat} {Q : VK} {E : XK} {cs : List (List Nat)} {n m : Nat} {f : Nat → Nat} {ss tt : List Stp} {ch : List (Nat × Nat)} {σ : St}
theorem FrL.mono (h : FrL p H0 H l) (S : Same H H') : FrL p H0 H' l := let ⟨a, b, xs, e, z⟩ := h; ⟨a, b, xs, S _ _ e, z⟩
theorem FrC.mono (h : FrC p H0 H l) (S : Same H H') : FrC p H0 H' l := let ⟨a, ms, e, z, g⟩ := h; ⟨a.mono S, ms, S _ _ e, z, fun m hm => (g m hm).mono S⟩
theorem FrL.mk {Hx : Hp} {xs : List V} (S : Same H Hx) (np : Hx p = none) (n : H0 l = none) (h : H l = some (.lst xs)) (hz : xs.length ≤ 10000) : FrL p H0 H l := ⟨n, ne_of_none (S _ _ h) np, xs, h, hz⟩
theorem FrL.nat {Hx : Hp} (S : Same H Hx) (np : Hx p = none) (n : H0 l = none) (h : H l = some (.lst (natV L))) (hz : L.length ≤ 10000) : FrL p H0 H l := .mk S np n h (by rw [natV_len]; exact hz)
theorem ClsN.fr {Hx : Hp} (h : ClsN H0 H l cs) (S : Same H Hx) (np : Hx p = none) (hz : cs.length ≤ 10000) (hc : ∀ c ∈ cs, c.length ≤ 10000) : FrC p H0 H l := by
  obtain ⟨n, as, e, hl, g⟩ := h
  refine ⟨.mk S np n e (by rw [List.length_map]; omega), as, e, by omega, fun m hm => ?_⟩
  obtain ⟨i, hi⟩ := List.mem_iff_getElem?.mp hm
  have hlt := (List.getElem?_eq_some_iff.mp hi).1
  have hc0 : cs[i]? = some (cs[i]'(by omega)) := List.getElem?_eq_getElem _
  obtain ⟨a, h1, h2, h3⟩ := g i _ hc0
  rw [hi] at h1
  cases h1
  exact .nat S np h3 h2 (hc _ (List.mem_of_getElem? hc0))
variable (K CT CP)
end
end L2.Px
set_option Elab.async false
set_option linter.all false
set_option maxRecDepth 100000
set_option maxHeartbeats 1000000
namespace L2.Px
open PySem PySem.Spec PyProof.Rows StX TL ClX LamX
end L2.Px
namespace L2.Px
open PySem PySem.Spec PyProof.Rows StX TL ClX LamX
section
variable {K : PySem.W.Frag} {CT CP : Addr} {H : Hp} {Q : VK} {l : Addr} {σ : St} {L M : List Nat} {ss : List Stp}
/-- a list of new pairs (text of one sign, number) -/
def PrsAt (H : Hp) (l : Addr) (cs : List Nat) (g : Nat → Nat) : Prop := ∃ xs, H l = some (.lst xs) ∧ xs.length = cs.length ∧ ∀ (i : Nat) (c : Nat), cs[i]? = some c → ∃ T, xs[i]? = some (V.ref T) ∧ H T = some (.tup [.str ⟨#[c]⟩, .int (g c : Nat)])
theorem PrsAt.mono {H' : Hp} {cs : List Nat} {g : Nat → Nat} (h : PrsAt H l cs g) (S : Same H H') : PrsAt H' l cs g :=
  let ⟨xs, e, hl, hx⟩ := h; ⟨xs, S _ _ e, hl, fun i c hc => let ⟨T, a, b⟩ := hx i c hc; ⟨T, a, S _ _ b⟩⟩
end
end L2.Px
namespace L2.Px
open PySem PySem.Spec PyProof.Rows StX TL ClX LamX
end L2.Px
namespace L2.Px
open PySem PySem.Spec PyProof.Rows StX TL ClX LamX
end L2.Px
namespace L2.Px
open PySem PySem.Spec PyProof.Rows StX TL ClX LamX
/-- v is a pair that is no range -/
def BadR (K : PySem.W.Frag) (H : Hp) (ss : List Stp) (v : V) : Prop := ∃ b x y, v = .ref b ∧ SqT K H b [x, y] ∧ NoSeq x ∧ NoSeq y ∧ NoRng ss x y
section
variable {K : PySem.W.Frag} {H H' : Hp} {b : Addr} {ss : List Stp} {v x y : V} {T : List (Addr × Str)}
theorem BadR.mono (h : BadR K H ss v) (S : Same H H') : BadR K H' ss v := let ⟨b, x, y, e, q, r⟩ := h; ⟨b, x, y, e, Same.tup S q, r⟩
end
end L2.Px
set_option Elab.async false
set_option linter.all false
set_option maxRecDepth 100000
set_option maxHeartbeats 1000000
namespace L2.Px
open PySem PySem.Spec PyProof.Rows StX TL ClX LamX
end L2.Px
set_option Elab.async false
set_option linter.all false
set_option maxRecDepth 100000
set_option maxHeartbeats 1000000
namespace L2.Px
open PySem PySem.Spec PyProof.Rows StX TL
theorem ChAt.kp {K : PySem.W.Frag} {H H' : Hp} {l : Addr} {cs : List (Nat × Nat)} {n : Nat} (h : ChAt K H l cs n) (k : Kp H H') : ChAt K H' l cs n := by
  obtain ⟨xs, e, hl, hx⟩ := h
  refine ⟨xs, k.keep _ _ (fun hr => ?_) e, hl, fun i c hc => ?_⟩
  · match xs, hr with
    | [.ref _, .int _, .int _, .int _], _ =>
      obtain ⟨_, _, _, T, eT, _⟩ := hx 1 (cs[1]'(by simp at hl; omega)) (List.getElem?_eq_getElem _)
      cases eT
  · obtain ⟨a, b, d, T, eT, q⟩ := hx i c hc
    exact ⟨a, b, d, T, eT, k.keep _ _ nr_tup q⟩
end L2.Px
set_option Elab.async false
set_option linter.all false
set_option maxRecDepth 100000
set_option maxHeartbeats 1000000
namespace L2.Px
open PySem PySem.Spec PyProof.Rows StX TL
/-- a word or None -/
def WV (v : V) : Prop := (∃ z : Str, v = .str z ∧ z.length ≤ 100 ∧ ∀ c ∈ tl z, c ≤ 122) ∨ v = .non
/-- a number or a bool -/
def NB (v : V) : Prop := (∃ i : Int, v = .int i) ∨ ∃ b : Bool, v = .bl b
def StF (xs : List V) : Prop := (∃ v, xs = [.str "write", v] ∧ WV v) ∨ ∃ a b c, xs = [.str "paste", a, b, c] ∧ NB a ∧ NB b ∧ NB c
theorem StF.head {xs : List V} (h : StF xs) : ∃ z r, xs = .str z :: r ∧ z ≠ "retype" := by
  rcases h with ⟨v, rfl, _⟩ | ⟨a, b, c, rfl, _⟩
  · exact ⟨_, _, rfl, by decide +kernel⟩
  · exact ⟨_, _, rfl, by decide +kernel⟩
inductive Due where
  | num (n : Nat)
  | step (n : Nat)
  | place
  | letter
def dueL : Due → List V
  | .num _ => []
  | .step n => [.str "error", .str "InvalidStep", .int (n : Nat)]
  | .place => [.str "error", .str "InvalidPlace"]
  | .letter => [.str "error", .str "InvalidLetter"]
def dueAt (K : PySem.W.Frag) (H : Hp) (v : V) : Due → Prop
  | .num n => v = .int (n : Nat)
  | d => ∃ p, v = .ref p ∧ H p = some (.tup (dueL d))
/-- what is due of an operation, its values xs, on the text of ss; the steps behind it; the operation in effect -/
inductive AftR (ss : List Stp) (xs : List V) : Due → List Stp → List Op → Prop
  | ok (o : Op) (eo : xs = opV o) (h : okOp ss o) : AftR ss xs (.num (opN ss o)) (aft ss o) [o]
  | step (f : StF xs) (h : ss.length = 30 ∨ isSt (sz ss : Nat) xs = false) : AftR ss xs (.step ss.length) ss []
  | place (p l : V) (eo : xs = [.str "retype", p, l]) (hp : NB p ∨ p = .non) (hl : WV l) (h : isInt 0 ((sz ss : Int) - 1) p = false) : AftR ss xs .place ss []
  | letter (p l : V) (eo : xs = [.str "retype", p, l]) (hp : NB p ∨ p = .non) (hl : WV l) (h : isInt 0 ((sz ss : Int) - 1) p = true) (g : isLet l = false) : AftR ss xs .letter ss []
section
variable {K : PySem.W.Frag} {CT CP CE : Addr} {H H' : Hp} {Q : VK} {E : XK} {r l a b : Addr} {i j : Int} {ms ns xs : List V} {ss ss' : List Stp} {d : Due} {os : List Op} {v : V}
theorem dueAt.mono (h : dueAt K H v d) (S : Same H H') : dueAt K H' v d := by
  cases d with
  | num n => exact h
  | step n => obtain ⟨p, e, q⟩ := h; exact ⟨p, e, S _ _ q⟩
  | place => obtain ⟨p, e, q⟩ := h; exact ⟨p, e, S _ _ q⟩
  | letter => obtain ⟨p, e, q⟩ := h; exact ⟨p, e, S _ _ q⟩
theorem rd_ifAndJ {t u : TT} {st su : TS} {D : Ends} {σ : St} {H : Hp} (P : Hp → Prop) (hb : ∀ Hc, P Hc → su D σ Hc) (h : (∀ Hc, P Hc → su D σ Hc) → tAnd t u σ H fun b H1 => if b = true then st D σ H1 else su D σ H1) : tIfS (tAnd t u) st su D σ H := h hb
theorem OpsAt.refs41 (h : OpsAt K H ms os) : ∀ v ∈ ms, isRef v = true := by
  intro v hv
  obtain ⟨j, hj⟩ := List.getElem?_of_mem hv
  have hl : j < os.length := by rw [← h.1]; exact (List.getElem?_eq_some_iff.mp hj).1
  obtain ⟨u, e, a, rfl, _⟩ := h.2 j _ (List.getElem?_eq_getElem hl)
  rw [hj] at e
  cases e
  rfl
end
section
variable {K : PySem.W.Frag} {CT CP CE C : Addr} {T : List (Addr × Str)} {H H' : Hp} {r le ld : Addr} {ms ns : List V} {ss : List Stp} {os : List Op}
/-- what the law holds: its dice, the names, its steps and its operations -/
structure LiS (K : PySem.W.Frag) (T : List (Addr × Str)) (H : Hp) (r le ld : Addr) (ms ns : List V) (ss : List Stp) (os : List Op) : Prop where
  row : RowAt K H r
  tab : LamX.Tabs T H
  el : H le = some (.lst ms)
  st : StepsAt K H ms ss
  dl : H ld = some (.lst ns)
  ops : OpsAt K H ns os
theorem LiS.km (h : LiS K T H r le ld ms ns ss os) (k : Km C T H H') (row : RowAt K H' r) : LiS K T H' r le ld ms ns ss os :=
  ⟨row, k.tabs h.tab, k.li (nr_refs h.st.refs) h.el, h.st.km k, k.li (nr_refs h.ops.refs41) h.dl, h.ops.1, fun j o q => let ⟨v, a, b, c, e⟩ := h.ops.2 j o q; ⟨v, a, b, c, k.tup e⟩⟩
theorem LiS.same (h : LiS K T H r le ld ms ns ss os) (k : Same H H') : LiS K T H' r le ld ms ns ss os := h.km (C := r) (.same k) (h.row.mono k)
theorem LiS.kp (h : LiS K T H r le ld ms ns ss os) (k : Kp H H') (row : RowAt K H' r) : LiS K T H' r le ld ms ns ss os := h.km (C := r) (.kp k) row
theorem LiS.but {x dx : Addr} {fs : List (Str × V)} (h : LiS K T H r le ld ms ns ss os) (b : But x H H') (e : H x = some (.ins CE dx fs)) : LiS K T H' r le ld ms ns ss os := h.km (Km.but (C := CE) b e) (h.row.but b e)
end
section
variable {K : PySem.W.Frag} {CT CP CE CIS CTL CIP CIL CTE : Addr} {Cs : List Addr} {H : Hp} {Q : VK} {x q : Addr} {xs : List V} {ss ss' : List Stp} {ds us : List Ent} {d : Due} {os1 : List Op}
theorem rd_ifSJ {t : TT} {st su : TS} {nx bk ct : St → Hp → Prop} {rt : VK} {σ : St} {H : Hp} (P : St → Hp → Prop) (hj : ∀ σ' Hc, P σ' Hc → nx σ' Hc) (h : ∀ nx' : St → Hp → Prop, (∀ σ' Hc, P σ' Hc → nx' σ' Hc) → tIfS t st su ⟨nx', rt, bk, ct⟩ σ H) : tIfS t st su ⟨nx, rt, bk, ct⟩ σ H := h nx hj
end
theorem dueAt.km {K : PySem.W.Frag} {C : Addr} {T : List (Addr × Str)} {H H' : Hp} {v : V} {d : Due} (h : dueAt K H v d) (k : Km C T H H') : dueAt K H' v d := by
  cases d with
  | num n => exact h
  | step n => obtain ⟨p, e, q⟩ := h; exact ⟨p, e, k.tu q⟩
  | place => obtain ⟨p, e, q⟩ := h; exact ⟨p, e, k.tu q⟩
  | letter => obtain ⟨p, e, q⟩ := h; exact ⟨p, e, k.tu q⟩
theorem dueAt.ref {K : PySem.W.Frag} {H : Hp} {v : V} {d : Due} (h : dueAt K H v d) (hd : ∀ n, d ≠ .num n) : ∃ p, v = .ref p ∧ SqT K H p (dueL d) := by
  cases d with
  | num n => exact absurd rfl (hd n)
  | step n => obtain ⟨p, e, q⟩ := h; exact ⟨p, e, SqT.of q⟩
  | place => obtain ⟨p, e, q⟩ := h; exact ⟨p, e, SqT.of q⟩
  | letter => obtain ⟨p, e, q⟩ := h; exact ⟨p, e, SqT.of q⟩
theorem AftR.ops {ss ss' : List Stp} {xs : List V} {d : Due} {os : List Op} (h : AftR ss xs d ss' os) : ((∃ n, d = .num n) ∧ ∃ o, os = [o] ∧ xs = opV o ∧ okOp ss o) ∨ ((∀ n, d ≠ .num n) ∧ os = []) := by
  cases h with
  | ok o eo h => exact .inl ⟨⟨_, rfl⟩, o, rfl, eo, h⟩
  | step f h => exact .inr ⟨fun n z => (by cases z), rfl⟩
  | place p l eo hp hl h => exact .inr ⟨fun n z => (by cases z), rfl⟩
  | letter p l eo hp hl h g => exact .inr ⟨fun n z => (by cases z), rfl⟩
end L2.Px
set_option Elab.async false
set_option linter.all false
set_option maxRecDepth 100000
set_option maxHeartbeats 2000000
namespace L2.Px
open PySem PySem.Spec PyProof.Rows StX TL
section
variable {X : Cx} {body orelse : List Stmt} {h₀ : ExceptHandler} {hds : List ExceptHandler} {pos : Pos} {tb u : TS}
def tTry0 (tb u : TS) : TS := fun D σ H => tb { D with nx := u D } σ H
theorem ps_try0 (hb : PSs X.nox body tb) (ho : PSs X orelse u) : PS X (.Try body (h₀ :: hds) orelse [] pos) (tTry0 tb u) := by
  refine ⟨fun pins s σ H D I h => ?_⟩
  refine wpAny_Try_except (wpAny_mono (hb.run pins s σ H { D with nx := u D } (I.wish _) h) (fun f s1 z => ?_) fun _ _ z => False.elim z)
  have z := z.unwish
  cases f with
  | next =>
    obtain ⟨σ1, H1, J1, q1⟩ := z
    exact ho.run pins s1 σ1 H1 D J1 q1
  | ret u => exact z
  | brk => exact z
  | cont => exact z
theorem rd_try0 {nx ct bk : St → Hp → Prop} {rt : VK} {σ : St} {H : Hp} (h : tb ⟨fun σ1 H1 => u ⟨nx, rt, bk, ct⟩ σ1 H1, rt, bk, ct⟩ σ H) : tTry0 tb u ⟨nx, rt, bk, ct⟩ σ H := h
end
end L2.Px
set_option Elab.async false
set_option linter.all false
set_option maxRecDepth 100000
set_option maxHeartbeats 1000000
namespace L2.Px
open PySem PySem.Spec PyProof.Rows StX TL ClX LamX
section
variable {K : PySem.W.Frag} {CT CP CE CK : Addr} {H H' : Hp} {a b x h d l p t : Addr} {v w : V} {x' y' : V} {kvs : List (Key × V)} {ss : List Stp} {f : Nat → Nat} {ls : List (Nat × Nat)} {ob : List Obs} {Q : VK} {E : XK} {n m : Nat} {ms ns : List V} {L : List Nat}
variable (K)
variable {K}
theorem rd_mkReader (tx : TX K CT CP H t ss) (q : ∀ x h d H', Same H H' → H x = none → H h = none → H d = none → Reader K CT CP CK H' x h d ss id [] [] → Q (.ref x) H') : rMk CK (sp_KeyReader_init K CT CP CK) E [.ref t] H Q := by
  intro x dx nx nd ne
  have S1 : Same H (upd (upd H dx (.own x)) x (.ins CK dx [])) := Same.mut (Same.mut (Same.refl _) nd) nx
  refine ⟨x, dx, t, ss, rfl, upd_same, tx.kp (.same S1), fun H' h d B hn hd hx hdx hne R => ⟨rfl, q x h d H' (fun b o e => B _ _ (ne_of_none e nx) (S1 _ _ e)) nx ?_ ?_ R⟩⟩
  · exact Same.back S1 hn
  · exact Same.back S1 hd
end
end L2.Px
set_option Elab.async false
set_option linter.all false
set_option maxRecDepth 100000
set_option maxHeartbeats 1000000
namespace L2.Px
open PySem PySem.Spec PyProof.Rows StX TL ClX LamX
/-- what is known is true, and what is tied is alike -/
structure Tru (ss : List Stp) (f : Nat → Nat) (ls : List (Nat × Nat)) : Prop where
  kn : ∀ k c, k < (tyL ss).length → gL ls (f k) = some c → lat ss k = c
  cl : ∀ a b, a < (tyL ss).length → b < (tyL ss).length → f a = f b → lat ss a = lat ss b
section
variable {ss : List Stp} {f : Nat → Nat} {ls : List (Nat × Nat)} {a b k p n : Nat} {w : List Nat}
theorem Tru.start : Tru ss id [] := ⟨(fun k c _ h => nomatch h), (fun a b _ _ h => congrArg (lat ss) (show a = b from h))⟩
theorem Tru.see (t : Tru ss f ls) (hk : k < (tyL ss).length) : Tru ss f (putL ls (f k) (lat ss k)) := by
  refine ⟨fun j c hj h => ?_, t.cl⟩
  rw [gL_put] at h
  split at h
  · rename_i e; cases h; exact t.cl _ _ hj hk e
  · exact t.kn j c hj h
theorem Tru.word (ok : okFrom 0 ss) : ∀ {w : List Nat} {p : Nat} {ls : List (Nat × Nat)}, Tru ss f ls → p + w.length ≤ sz ss → (∀ i c, w[i]? = some c → c = lat ss (kat ss (p + i))) → Tru ss f (lsW f ss p w ls) ∧ okW f ss p w ls
  | [], _, _, t, _, _ => ⟨t, trivial⟩
  | c :: r, p, ls, t, hp, hw => by
    simp only [List.length_cons] at hp
    have hk := kat_lt ok (show p < sz ss by omega)
    have ec : c = lat ss (kat ss p) := hw 0 c rfl
    have t' : Tru ss f (putL ls (f (kat ss p)) c) := by rw [ec]; exact t.see hk
    obtain ⟨h1, h2⟩ := Tru.word ok (w := r) (p := p + 1) t' (by omega) fun i c' hc' => by
      have := hw (i + 1) c' (by simpa using hc')
      rw [show p + 1 + i = p + (i + 1) by omega]; exact this
    exact ⟨h1, ⟨fun c' h => by rw [ec]; exact (t.kn _ _ hk h).symm, h2⟩⟩
theorem Tru.hear (t : Tru ss f ls) (ha : a < (tyL ss).length) (hb : b < (tyL ss).length) (e : lat ss a = lat ss b) : Tru ss (tieF f a b) (hearL f ls a b) := by
  have hM : ∀ k, k < (tyL ss).length → f k = max (f a) (f b) → lat ss k = lat ss a := fun k hk h => by
    rcases Nat.le_total (f a) (f b) with z | z
    · rw [Nat.max_eq_right z] at h; rw [t.cl _ _ hk hb h, e]
    · rw [Nat.max_eq_left z] at h; exact t.cl _ _ hk ha h
  have hm : ∀ k, k < (tyL ss).length → f k = min (f a) (f b) → lat ss k = lat ss a := fun k hk h => by
    rcases Nat.le_total (f a) (f b) with z | z
    · rw [Nat.min_eq_left z] at h; exact t.cl _ _ hk ha h
    · rw [Nat.min_eq_right z] at h; rw [t.cl _ _ hk hb h, e]
  have gM : ∀ c, gL ls (max (f a) (f b)) = some c → lat ss a = c := fun c h => by
    rcases Nat.le_total (f a) (f b) with z | z
    · rw [Nat.max_eq_right z] at h; rw [e]; exact t.kn _ _ hb h
    · rw [Nat.max_eq_left z] at h; exact t.kn _ _ ha h
  have gm : ∀ c, gL ls (min (f a) (f b)) = some c → lat ss a = c := fun c h => by
    rcases Nat.le_total (f a) (f b) with z | z
    · rw [Nat.min_eq_left z] at h; exact t.kn _ _ ha h
    · rw [Nat.min_eq_right z] at h; rw [e]; exact t.kn _ _ hb h
  refine ⟨fun k c hk h => ?_, fun x y hx hy h => ?_⟩
  · have ht := tieF_at (f := f) (a := a) (b := b) (k := k)
    have key : gL ls (tieF f a b k) = some c ∨ (tieF f a b k = min (f a) (f b) ∧ gL ls (max (f a) (f b)) = some c) := by
      unfold hearL at h
      split at h
      · rename_i c0 e0
        rw [gL_put] at h
        split at h
        · rename_i e1; cases h; exact .inr ⟨e1, e0⟩
        · exact .inl h
      · exact .inl h
    rcases ht with ⟨t1, t2⟩ | ⟨t1, t2⟩
    · rw [hM k hk t1]
      rcases key with h | ⟨_, h⟩
      · rw [t2] at h; exact gm _ h
      · exact gM _ h
    · rcases key with h | ⟨h1, h2⟩
      · rw [t2] at h; exact t.kn _ _ hk h
      · rw [t2] at h1; rw [hm k hk h1]; exact gM _ h2
  · rcases tieF_at (f := f) (a := a) (b := b) (k := x) with ⟨t1, t2⟩ | ⟨t1, t2⟩ <;> rcases tieF_at (f := f) (a := a) (b := b) (k := y) with ⟨u1, u2⟩ | ⟨u1, u2⟩ <;> rw [t2, u2] at h
    · rw [hM x hx t1, hM y hy u1]
    · rw [hM x hx t1, hm y hy h.symm]
    · rw [hm x hx h, hM y hy u1]
    · exact t.cl _ _ hx hy h
theorem mem_openH : k ∈ openH f ls n ↔ k < n ∧ f k = k ∧ gL ls k = none := by
  unfold openH
  rw [List.mem_filter, List.mem_range, Bool.and_eq_true, decide_eq_true_iff, Option.isNone_iff_eq_none]
/-- the unknown keys' roots are the open heads -/
theorem open_count (hf : ∀ k, k < n → f k ≤ k ∧ f (f k) = f k) : (PySem.W.ossOf (((List.range n).filter fun k => (gL ls (f k)).isNone).map fun k => ((f k : Nat) : Int))).length = (openH f ls n).length := by
  refine oss_count ((openH_asc f ls n).imp fun h => by omega) fun x => ?_
  rw [List.mem_map]
  constructor
  · rintro ⟨k, hk, rfl⟩
    obtain ⟨h1, h2⟩ := List.mem_filter.mp hk
    have h1 := List.mem_range.mp h1
    obtain ⟨f1, f2⟩ := hf k h1
    exact ⟨f k, mem_openH.mpr ⟨by omega, f2, Option.isNone_iff_eq_none.mp h2⟩, rfl⟩
  · rintro ⟨m, hm, rfl⟩
    obtain ⟨h1, h2, h3⟩ := mem_openH.mp hm
    exact ⟨m, List.mem_filter.mpr ⟨List.mem_range.mpr h1, by rw [h2]; exact Option.isNone_iff_eq_none.mpr h3⟩, by rw [h2]⟩
theorem knownL_get (f : Nat → Nat) (ls : List (Nat × Nat)) (n k : Nat) : gL (knownL f ls n) k = if k < n then gL ls (f k) else none := by
  induction n with
  | zero => rfl
  | succ n ih =>
    have e : knownL f ls (n + 1) = knownL f ls n ++ ((gL ls (f n)).map fun c => (n, c)).toList := by
      unfold knownL
      rw [List.range_succ, List.filterMap_append]
      cases h : gL ls (f n) <;> simp [h]
    rw [e]
    cases h : gL ls (f n) with
    | none =>
      simp only [Option.map_none, Option.toList_none, List.append_nil]
      rw [ih]
      by_cases z : k < n
      · rw [if_pos z, if_pos (by omega)]
      · rw [if_neg z]
        by_cases y : k = n
        · subst y; rw [if_pos (by omega), h]
        · rw [if_neg (by omega)]
    | some c =>
      simp only [Option.map_some, Option.toList_some]
      rw [gL_snoc, ih]
      by_cases z : k < n
      · rw [if_pos z, if_neg (show ¬ n = k by omega), if_pos (show k < n + 1 by omega)]
        cases gL ls (f k) <;> rfl
      · rw [if_neg z]
        by_cases y : n = k
        · subst y; rw [if_pos rfl, if_pos (by omega), h]; rfl
        · rw [if_neg y, if_neg (by omega)]; rfl
end
/-- the key that is written there -/
theorem fstP_kat {ss : List Stp} (ok : okFrom 0 ss) : ∀ (r : List Stp) (done : List Stp), ss = done ++ r → ∀ k, k < (tyL r).length → fstP r k < sz r ∧ kat ss (sz done + fstP r k) = (tyL done).length + k
  | [], _, _, k, hk => absurd hk (by simp [tyL])
  | s :: r, done, e, k, hk => by
    have ih := fstP_kat ok r (done ++ [s]) (by rw [e, List.append_assoc]; rfl)
    have es : ss[done.length]? = some s := by rw [e, List.getElem?_append_right (Nat.le_refl _), Nat.sub_self]; rfl
    rw [sz_snoc, tyL_append] at ih
    cases s with
    | wr w =>
      have hl : (tyL (.wr w :: r)).length = w.length + (tyL r).length := by
        rw [show tyL (.wr w :: r) = ty1 (.wr w) ++ tyL r from rfl, List.length_append]; rfl
      have h1 : (tyL [Stp.wr w]).length = w.length := by simp [tyL, ty1]; exact len_tl w
      rw [List.length_append, h1] at ih
      rw [hl] at hk
      show (if k < w.length then k else _) < w.length + sz r ∧ kat ss (sz done + (if k < w.length then k else _)) = _
      by_cases h : k < w.length
      · rw [if_pos h]
        refine ⟨by omega, ?_⟩
        have et : ss.take done.length = done := by rw [e, List.take_left']; rfl
        have et1 : ss.take (done.length + 1) = done ++ [.wr w] := by rw [take_snoc es, et]
        have hz : len1 (.wr w) = w.length := rfl
        have := ks_wr ok es (p := sz done + k) (by rw [et]; omega) (by rw [et1, sz_snoc]; omega)
        rw [et, Nat.add_sub_cancel_left] at this
        unfold kat
        rw [this]; rfl
      · rw [if_neg h]
        obtain ⟨i1, i2⟩ := ih (k - w.length) (by omega)
        refine ⟨by omega, ?_⟩
        have e2 : sz done + (w.length + fstP r (k - w.length)) = sz done + len1 (.wr w) + fstP r (k - w.length) := by show _ = sz done + w.length + _; omega
        rw [e2, i2]; omega
    | pa f l t =>
      have hl : (tyL (.pa f l t :: r)).length = (tyL r).length := by simp [tyL, ty1]
      have h1 : (tyL [Stp.pa f l t]).length = 0 := by simp [tyL, ty1]
      rw [List.length_append, h1] at ih
      rw [hl] at hk
      obtain ⟨i1, i2⟩ := ih k hk
      have h5 := (ok_at ok es).1.1
      have e1 : len1 (.pa f l t) = (l + 1 - f) * t := by show (l - f + 1) * t = _; rw [show l - f + 1 = l + 1 - f by omega]
      show (l + 1 - f) * t + fstP r k < len1 (.pa f l t) + sz r ∧ kat ss (sz done + ((l + 1 - f) * t + fstP r k)) = _
      rw [e1] at i2 ⊢
      refine ⟨by omega, ?_⟩
      rw [← Nat.add_assoc, i2, Nat.add_zero]
theorem fstP_at {ss : List Stp} (ok : okFrom 0 ss) {k : Nat} (hk : k < (tyL ss).length) : fstP ss k < sz ss ∧ kat ss (fstP ss k) = k := by
  have := fstP_kat ok ss [] rfl k hk
  simpa [sz, tyL] using this
/-- what the law of readers holds: G is the heap ahead of the reader -/
structure Hs (K : PySem.W.Frag) (CT CP CK : Addr) (G H : Hp) (r b x h d : Addr) (ss : List Stp) (f : Nat → Nat) (ls : List (Nat × Nat)) (ob : List Obs) : Prop where
  kp : Kp G H
  rowG : RowAt K G r
  row : RowAt K H r
  tx : TX K CT CP G b ss
  nx : G x = none
  nh : G h = none
  nd : G d = none
  rd : Reader K CT CP CK H x h d ss f ls ob
section
variable {K : PySem.W.Frag} {CT CP CK : Addr} {G H H' : Hp} {r b x h d l : Addr} {ss : List Stp} {f f' : Nat → Nat} {ls ls' : List (Nat × Nat)} {ob ob' : List Obs} {Q : VK} {E : XK} {L : List Nat}
theorem Hs.same (s : Hs K CT CP CK G H r b x h d ss f ls ob) (S : Same H H') : Hs K CT CP CK G H' r b x h d ss f ls ob :=
  ⟨s.kp.trans (.same S), s.rowG, s.row.mono S, s.tx, s.nx, s.nh, s.nd, s.rd.same S⟩
theorem Hs.kpT (s : Hs K CT CP CK G H r b x h d ss f ls ob) (k : Kp H H') (row : RowAt K H' r) : Hs K CT CP CK G H' r b x h d ss f ls ob :=
  ⟨s.kp.trans k, s.rowG, row, s.tx, s.nx, s.nh, s.nd, s.rd.kp k⟩
theorem Hs.txt (s : Hs K CT CP CK G H r b x h d ss f ls ob) : TX K CT CP H b ss := s.tx.kp s.kp
/-- the reader changes -/
theorem Hs.bt (s : Hs K CT CP CK G H r b x h d ss f ls ob) (B : Bt [x, h, d] H H') (rd : Reader K CT CP CK H' x h d ss f' ls' ob') : Hs K CT CP CK G H' r b x h d ss f' ls' ob' := by
  have nA : ∀ {c o}, G c = some o → c ∉ [x, h, d] := fun {c o} e z => by
    simp only [List.mem_cons, List.not_mem_nil, or_false] at z
    rcases z with rfl | rfl | rfl
    · rw [s.nx] at e; cases e
    · rw [s.nh] at e; cases e
    · rw [s.nd] at e; cases e
  have kp' : Kp G H' := ⟨fun c o n e => B _ _ (nA e) (s.kp.keep c o n e), fun c sa i st n e => let ⟨i', s', e', z⟩ := s.kp.rows c sa i st n e; ⟨i', s', e', B _ _ (nA e) z⟩⟩
  refine ⟨kp', s.rowG, ?_, s.tx, s.nx, s.nh, s.nd, rd⟩
  obtain ⟨sa, sc, i, st, n, e1, e2⟩ := s.rowG.ex
  obtain ⟨sa', sc', i', st', n', e1', e2'⟩ := s.row.ex
  obtain ⟨i2, s2, n2, e3⟩ := s.kp.rows _ _ _ _ _ e1
  rw [e1'] at e3
  cases e3
  exact ⟨_, sc, i', st', n', B _ _ (nA e1) e1', kp'.lst (nr_vals fun v hv => by obtain ⟨i, _, rfl⟩ := List.mem_map.mp hv; rfl) e2⟩
variable (K CT CP CK)
def sp_x_law_power : Sp := fun vs H Q _ => ∃ n m : Nat, vs = [.int n, .int m] ∧ n ≤ 1000 ∧ m ≤ 100000 ∧ ∀ H', Same H H' → Q (.int (n ^ m : Nat)) H'
def sp_x_law_is_told : Sp := fun vs H Q _ => ∃ x h d b l ss f ls ob, vs = [.ref x, .ref b, .ref l] ∧ Reader K CT CP CK H x h d ss f ls ob ∧ TX K CT CP H b ss ∧ H l = some (.lst (natV ((List.range (tyL ss).length).map f))) ∧ Tru ss f ls ∧ sz ss ≤ 4000 ∧ ∀ H', Same H H' → Q (.bl true) H'
def sp_x_law_is_seen : Sp := fun vs H Q _ => ∃ G r b x h d l ss f ls ob, vs = [.ref r, .ref x, .ref b, .ref l] ∧ Hs K CT CP CK G H r b x h d ss f ls ob ∧ H l = some (.lst (natV ((List.range (tyL ss).length).map f))) ∧ l ∉ [x, h, d] ∧ Tru ss f ls ∧ 0 < sz ss ∧ sz ss ≤ 4000 ∧ ob.length ≤ 100 ∧
  ∀ H' l' f' ls' ob', Hs K CT CP CK G H' r b x h d ss f' ls' ob' → H' l' = some (.lst (natV ((List.range (tyL ss).length).map f'))) → l' ∉ [x, h, d] → Tru ss f' ls' → ob'.length ≤ ob.length + 1 → Q (.ref l') H'
end
section
variable {K : PySem.W.Frag} {CT CP CK : Addr} {H : Hp} {x h d : Addr} {ss : List Stp} {f : Nat → Nat} {ls : List (Nat × Nat)} {ob : List Obs} {Q : VK} {E : XK}
theorem rd_rdKnownH (r : Reader K CT CP CK H x h d ss f ls ob) (q : ∀ H' p, Same H H' → H p = none → H' p = some (.dK (kvM (knownL f ls (tyL ss).length))) → Q (.ref p) H') : ∃ a' dx fs, V.ref x = .ref a' ∧ H a' = some (.ins CK dx fs) ∧ sp_KeyReader_known_letters K CT CP CK [.ref a'] H Q E := by
  obtain ⟨i, e⟩ := id r
  exact ⟨x, _, _, rfl, e.ins, x, h, d, ss, f, ls, ob, rfl, r, q⟩
end
end L2.Px
set_option Elab.async false
set_option linter.all false
set_option maxRecDepth 100000
set_option maxHeartbeats 1000000
namespace L2.Px
open PySem PySem.Spec PyProof.Rows StX TL
section
variable {K : PySem.W.Frag} {te tt' : TE} {tt : TT} {σ : St} {H : Hp} {Q : VK} {j n : Nat} {ws : List Nat} {d : Addr} {kvs : List (Key × V)}
/-- [.. for k in d if p], the dict locked meanwhile, no key passes -/
theorem rd_lockNone (hn : σ[n]? = some (some (.ref d))) (hd : H d = some (.dK kvs)) (hz : kvs.length < sizeLine) (hj : ∀ v, wipe ((wipe σ ws).set j (some v)) ws = wipe σ ws)
    (ht : ∀ k v H' (R : Bool → Hp → Prop), (k, v) ∈ kvs → Rd H' d (.dK kvs) → (∀ b o, b ≠ d → H b = some o → H' b = some o) → (∀ H'', Same H' H'' → R false H'') → tt ((wipe σ ws).set j (some (kV k))) H' R)
    (hq : ∀ D H', Same H H' → H' D = some (.lst []) → Q (.ref D) H') : tLockE (tLc (iKeys (tVar n)) (gName j) tt te ws) σ H Q := by
  refine ⟨d, _, hd, trivial, fun od => ?_⟩
  generalize hl : upd H d (.frz od (.dK kvs)) = Hl
  have el : Hl d = some (.frz od (.dK kvs)) := by rw [← hl]; exact upd_same
  have old : ∀ b o, b ≠ d → H b = some o → Hl b = some o := fun b o ne e => by rw [← hl, upd_ne ne]; exact e
  refine ⟨_, hn, d, od, rfl, .inl ⟨kvs, el, fun D hD => ?_⟩⟩
  have nd : D ≠ d := fun z => by subst z; rw [el] at hD; cases hD
  refine ⟨fun i m H' => m = kvs.length - i ∧ i ≤ kvs.length ∧ Same Hl H' ∧ H' D = some (.lst []), ⟨_, rfl, Nat.zero_le _, Same.new (Same.refl _) hD, upd_same⟩, ?_⟩
  rintro i m H1 ⟨rfl, hi, S, eD⟩
  by_cases hlt : i < kvs.length
  · refine .inr ⟨⟨S _ _ el, hlt⟩, fun H' => i + 1 ≤ kvs.length ∧ Same Hl H' ∧ H' D = some (.lst []), fun H' z => ⟨kvs.length - (i + 1), by omega, rfl, z⟩, fun x H' y => ?_⟩
    obtain ⟨e1, k, v, e2, e3⟩ := y
    subst e1 e3
    have hm : (k, v) ∈ kvs := List.mem_of_getElem? e2
    refine ⟨hj _, ht k v H' _ hm (.inr ⟨od, S _ _ el⟩) (fun b o ne e => S _ _ (old b o ne e)) fun H2 S2 => ?_⟩
    rw [if_neg Bool.false_ne_true]
    exact ⟨hlt, S.trans S2, S2 _ _ eD⟩
  · have e : i = kvs.length := by omega
    subst e
    refine .inl ⟨⟨S _ _ el, Nat.le_refl _⟩, S _ _ el, hq D _ (fun b o e => ?_) (by rw [upd_ne nd]; exact eD)⟩
    by_cases hb : b = d
    · subst hb; rw [hd] at e; cases e; exact upd_same
    · rw [upd_ne hb]
      exact S _ _ (by rw [← hl, upd_ne hb]; exact e)
end
theorem openH_len' (f : Nat → Nat) (ls : List (Nat × Nat)) (n : Nat) : (openH f ls n).length ≤ n := by
  have := List.length_filter_le (fun k => decide (f k = k) && (gL ls k).isNone) (List.range n)
  rw [List.length_range] at this
  exact this
theorem kvM_mem {ls : List (Nat × Nat)} {k : Key} {v : V} (h : (k, v) ∈ kvM ls) : ∃ c ∈ ls, k = Sum.inl ((c.1 : Nat) : Int) ∧ v = .str ⟨#[c.2]⟩ := by
  obtain ⟨c, hc, e⟩ := List.mem_map.mp h
  cases e
  exact ⟨c, hc, rfl, rfl⟩
theorem mem_knownL {f : Nat → Nat} {ls : List (Nat × Nat)} {n : Nat} {c : Nat × Nat} (h : c ∈ knownL f ls n) : c.1 < n ∧ gL ls (f c.1) = some c.2 := by
  obtain ⟨k, hk, e⟩ := List.mem_filterMap.mp h
  obtain ⟨x, hx, rfl⟩ := Option.map_eq_some_iff.mp e
  exact ⟨List.mem_range.mp hk, hx⟩
theorem knownL_asc (f : Nat → Nat) (ls : List (Nat × Nat)) (n : Nat) : ((knownL f ls n).map (·.1)).Pairwise (· < ·) := by
  have e : (knownL f ls n).map (·.1) = (List.range n).filter fun k => (gL ls (f k)).isSome := by
    unfold knownL
    induction (List.range n) with
    | nil => rfl
    | cons k r ih =>
      rw [List.filterMap_cons, List.filter_cons]
      cases e : gL ls (f k) with
      | none => simpa using ih
      | some c => simpa using ih
  rw [e]
  exact List.Pairwise.filter _ List.pairwise_lt_range
theorem knownL_len (f : Nat → Nat) (ls : List (Nat × Nat)) (n : Nat) : (knownL f ls n).length ≤ n := by
  have := List.length_filterMap_le (fun k => (gL ls (f k)).map fun c => (k, c)) (List.range n)
  rw [List.length_range] at this
  exact this
section
variable {K : PySem.W.Frag} {CT CP CK : Addr} {H : Hp} {Q : VK} {d x h : Addr} {ss : List Stp} {f : Nat → Nat} {ls : List (Nat × Nat)} {ob : List Obs}
/-- list(d) and sorted(d) of the known letters -/
theorem rd_listKn {n : Nat} (e : H d = some (.dK (kvM (knownL f ls n)))) (q : ∀ p H', Same H H' → H' p = some (.lst (natV ((knownL f ls n).map (·.1)))) → Q (.ref p) H') : rListD [.ref d] H Q := by
  refine ⟨d, _, rfl, e, fun p hp => q p _ (Same.new (Same.refl _) hp) ?_⟩
  rw [upd_same]
  unfold kvM natV
  rw [List.map_map, List.map_map]; rfl
theorem rd_sortKn {n : Nat} (e : H d = some (.dK (kvM (knownL f ls n)))) (q : ∀ p H', Same H H' → H' p = some (.lst (natV ((knownL f ls n).map (·.1)))) → Q (.ref p) H') : rSortDI K [.ref d] H Q := by
  refine ⟨d, _, ((knownL f ls n).map (·.1)).map fun m => ((m : Nat) : Int), rfl, .inl e, ?_, fun ns p hpn hr hn => ?_⟩
  · unfold kvM; rw [List.map_map, List.map_map, List.map_map]; rfl
  · have asc := knownL_asc f ls n
    have e : ns = ((knownL f ls n).map (·.1)).map fun m => ((m : Nat) : Int) := by
      have hM : (((knownL f ls n).map (·.1)).map fun m => ((m : Nat) : Int)).Pairwise (· < ·) := List.pairwise_map.mpr (asc.imp fun h => by omega)
      have nd : ns.Nodup := hpn.nodup_iff.mpr (hM.imp fun h => by omega)
      exact rising_unique (lt := fun a b : Int => a < b) (fun a => by omega) (fun a b c => by omega) ((hr.and nd).imp fun h => by omega) hM fun x => hpn.mem_iff
    rw [e, ← natV_ints]
    exact q p _ (Same.new (Same.refl _) hn) upd_same
end
section
variable {K : PySem.W.Frag} {ta : TE} {σ : St} {H : Hp} {Q : VK}
theorem rd_lenSetU (h : ta σ H fun x H1 => ∃ (l : Addr) (ns : List Int), x = V.ref l ∧ SqL K H1 l (ns.map V.int) ∧ ns.length ≤ 4000 ∧ Q (.int ((PySem.W.ossOf ns).length : Nat)) H1) : tLenSetU K ta σ H Q := h
end
theorem knownL_N (f : Nat → Nat) (ls : List (Nat × Nat)) (n : Nat) : (knownL f ls n).length = knownN f ls n := by
  unfold knownL knownN
  induction (List.range n) with
  | nil => rfl
  | cons k r ih =>
    rw [List.filterMap_cons, List.filter_cons]
    cases e : gL ls (f k) with
    | none => simpa using ih
    | some c => simpa using ih
theorem tieF_eq (f : Nat → Nat) (a b : Nat) : tieF f a b a = tieF f a b b := by
  rcases tieF_at (f := f) (a := a) (b := b) (k := a) with ⟨t1, t2⟩ | ⟨t1, t2⟩ <;> rcases tieF_at (f := f) (a := a) (b := b) (k := b) with ⟨u1, u2⟩ | ⟨u1, u2⟩ <;> rw [t2, u2] <;> omega
theorem rd_ifOrJ {t u : TT} {st su : TS} {D : Ends} {σ : St} {H : Hp} (P : Hp → Prop) (hb : ∀ Hc, P Hc → st D σ Hc) (h : (∀ Hc, P Hc → st D σ Hc) → tOr t u σ H fun b H1 => if b = true then st D σ H1 else su D σ H1) : tIfS (tOr t u) st su D σ H := h hb
section
variable {K : PySem.W.Frag} {H : Hp} {Q : VK} {d : Addr} {ls : List (Nat × Nat)}
theorem rd_lenKn (h : H d = some (.dK (kvM ls))) (q : Q (.int (ls.length : Nat)) H) : rLenDA [.ref d] H Q := ⟨d, _, rfl, h, by unfold kvM; rw [List.length_map]; exact q⟩
end
theorem natV_at {f : Nat → Nat} {n k : Nat} (hk : k < n) : (natV ((List.range n).map f))[k]? = some (V.int (f k : Nat)) := by
  unfold natV
  rw [List.map_map, List.getElem?_map, List.getElem?_range hk]; rfl
theorem plain_mapF {K : PySem.W.Frag} {H : Hp} {l : Addr} {f : Nat → Nat} {n : Nat} (h : H l = some (.lst (natV ((List.range n).map f)))) : Plain (Itl K l) n (fun i => .int (((List.range n).map f)[i]?.getD 0 : Nat)) H := by
  have P := plain_nat (K := K) h
  rw [List.length_map, List.length_range] at P
  exact P
theorem mapF_at {f : Nat → Nat} {n k : Nat} (hk : k < n) : ((List.range n).map f)[k]?.getD 0 = f k := by
  rw [List.getElem?_map, List.getElem?_range hk]; rfl
end L2.Px
set_option Elab.async false
set_option linter.all false
set_option maxRecDepth 100000
set_option maxHeartbeats 1000000
namespace L2.Px
open PySem PySem.Spec PyProof.Rows StX TL
section
variable {f : Nat → Nat} {ls : List (Nat × Nat)} {ss : List Stp} {n k c : Nat} {rest : List Nat}
theorem openH_put (h : openH f ls n = k :: rest) : openH f (putL ls k c) n = rest := by
  have asc := openH_asc f ls n
  have e : openH f (putL ls k c) n = (openH f ls n).filter fun j => !decide (j = k) := by
    unfold openH
    rw [List.filter_filter]
    congr 1
    funext j
    rw [gL_put]
    by_cases z : j = k
    · rw [if_pos z, decide_eq_true z]; simp
    · rw [if_neg z, decide_eq_false z]; simp
  rw [e, h]
  rw [h] at asc
  have a1 := (List.pairwise_cons.mp asc).1
  rw [List.filter_cons_of_neg (by simp), List.filter_eq_self.mpr]
  intro a ha
  have := a1 a ha
  rw [decide_eq_false (by omega)]; rfl
theorem open_known (h : k ∈ openH f ls n) : knownN f ls n < n := by
  obtain ⟨h1, h2, h3⟩ := mem_openH.mp h
  unfold knownN
  have : ((List.range n).filter fun k => (gL ls (f k)).isSome).length < (List.range n).length := by
    refine Nat.lt_of_le_of_ne (List.length_filter_le _ _) fun z => ?_
    have z := List.length_filter_eq_length_iff.mp z k (List.mem_range.mpr h1)
    rw [h2, h3] at z; cases z
  rwa [List.length_range] at this
theorem Tru.all (t : Tru ss f ls) (hf : ∀ k, k < (tyL ss).length → f k ≤ k ∧ f (f k) = f k) (e : openH f ls (tyL ss).length = []) (hk : k < (tyL ss).length) : gL ls (f k) = some (lat ss k) := by
  obtain ⟨f1, f2⟩ := hf k hk
  cases h : gL ls (f k) with
  | none =>
    have : f k ∈ openH f ls (tyL ss).length := mem_openH.mpr ⟨by omega, f2, h⟩
    rw [e] at this; cases this
  | some c => rw [t.kn k c hk h]
end
section
variable {K : PySem.W.Frag} {CT CP CK : Addr} {H : Hp} {x h d : Addr} {ss : List Stp} {f : Nat → Nat} {ls : List (Nat × Nat)} {ob : List Obs}
theorem Reader.roots (r : Reader K CT CP CK H x h d ss f ls ob) : ∀ k, k < (tyL ss).length → f k ≤ k ∧ f (f k) = f k := fun k hk => by
  obtain ⟨i, r⟩ := r
  obtain ⟨a1, _, a2⟩ := r.spec hk
  exact ⟨a1, a2⟩
end
/-- letters of a text with the unknown ones filled in -/
theorem mkS_getD {f : Nat → Nat} {ls : List (Nat × Nat)} {n c : Nat} : (List.range n).map (fun k => (V.str ⟨#[(gL ls (f k)).getD c]⟩)) = sgV ((List.range n).map fun k => (gL ls (f k)).getD c) := by
  unfold sgV; rw [List.map_map]; rfl
theorem withS_tyL0 (g : Nat → Nat) (ss : List Stp) : tyL (withS g 0 ss) = (List.range (tyL ss).length).map g := by
  rw [withS_tyL]; simp only [Nat.zero_add]
end L2.Px
set_option Elab.async false
set_option linter.all false
set_option maxRecDepth 100000
set_option maxHeartbeats 4000000
namespace L2.Px
open PySem PySem.Spec PyProof.Rows StX TL ClX
def top (i : Nat) : Stmt := PySem.Challenge.pw_pastekeys_k15_whole_readers_keep_the_tru.main.body.getD i (.Pass ⟨0, 0, 0, 0⟩)
abbrev s_is_integer : Stmt := top 15
abbrev N_is_integer : List Str := ["value", "low", "high"]
theorem sc_is_integer : FnScope N_is_integer ["value", "low", "high"] (defScope s_is_integer) := ⟨rfl, rfl, rfl, by decide +kernel, rfl, by decide +kernel, by decide +kernel⟩
abbrev s_is_letter : Stmt := top 16
abbrev N_is_letter : List Str := ["value"]
theorem sc_is_letter : FnScope N_is_letter ["value"] (defScope s_is_letter) := ⟨rfl, rfl, rfl, by decide +kernel, rfl, by decide +kernel, by decide +kernel⟩
abbrev s_is_word : Stmt := top 17
abbrev N_is_word : List Str := ["value", "letter"]
theorem sc_is_word : FnScope N_is_word ["value"] (defScope s_is_word) := ⟨rfl, rfl, rfl, by decide +kernel, rfl, by decide +kernel, by decide +kernel⟩
abbrev s_is_step : Stmt := top 18
abbrev N_is_step : List Str := ["value", "size", "word", "first", "last", "times"]
theorem sc_is_step : FnScope N_is_step ["value", "size"] (defScope s_is_step) := ⟨rfl, rfl, rfl, by decide +kernel, rfl, by decide +kernel, by decide +kernel⟩
abbrev s_Part_init : Stmt := inClass (top 19) 0
abbrev N_Part_init : List Str := ["self", "start", "length", "is_typed", "first", "last"]
theorem sc_Part_init : FnScope N_Part_init ["self", "start", "length", "is_typed", "first", "last"] (defScope s_Part_init) := ⟨rfl, rfl, rfl, by decide +kernel, rfl, by decide +kernel, by decide +kernel⟩
abbrev s_Part_source : Stmt := inClass (top 19) 1
abbrev N_Part_source : List Str := ["self", "place"]
theorem sc_Part_source : FnScope N_Part_source ["self", "place"] (defScope s_Part_source) := ⟨rfl, rfl, rfl, by decide +kernel, rfl, by decide +kernel, by decide +kernel⟩
abbrev s_Text_init : Stmt := inClass (top 20) 1
abbrev N_Text_init : List Str := ["self", "steps", "parts", "typed", "total", "index", "step"]
theorem sc_Text_init : FnScope N_Text_init ["self", "steps"] (defScope s_Text_init) := ⟨rfl, rfl, rfl, by decide +kernel, rfl, by decide +kernel, by decide +kernel⟩
abbrev s_Text_of_steps : Stmt := inClass (top 20) 3
abbrev N_Text_of_steps : List Str := ["cls", "steps"]
theorem sc_Text_of_steps : FnScope N_Text_of_steps ["cls", "steps"] (defScope s_Text_of_steps) := ⟨rfl, rfl, rfl, by decide +kernel, rfl, by decide +kernel, by decide +kernel⟩
abbrev s_Text_steps : Stmt := inClass (top 20) 4
abbrev N_Text_steps : List Str := ["self"]
theorem sc_Text_steps : FnScope N_Text_steps ["self"] (defScope s_Text_steps) := ⟨rfl, rfl, rfl, by decide +kernel, rfl, by decide +kernel, by decide +kernel⟩
abbrev s_Text_typed_keys : Stmt := inClass (top 20) 5
abbrev N_Text_typed_keys : List Str := ["self"]
theorem sc_Text_typed_keys : FnScope N_Text_typed_keys ["self"] (defScope s_Text_typed_keys) := ⟨rfl, rfl, rfl, by decide +kernel, rfl, by decide +kernel, by decide +kernel⟩
abbrev s_Text_size : Stmt := inClass (top 20) 6
abbrev N_Text_size : List Str := ["self"]
theorem sc_Text_size : FnScope N_Text_size ["self"] (defScope s_Text_size) := ⟨rfl, rfl, rfl, by decide +kernel, rfl, by decide +kernel, by decide +kernel⟩
abbrev s_Text_check_place : Stmt := inClass (top 20) 8
abbrev N_Text_check_place : List Str := ["self", "place"]
theorem sc_Text_check_place : FnScope N_Text_check_place ["self", "place"] (defScope s_Text_check_place) := ⟨rfl, rfl, rfl, by decide +kernel, rfl, by decide +kernel, by decide +kernel⟩
abbrev s_Text_key_of : Stmt := inClass (top 20) 10
abbrev N_Text_key_of : List Str := ["self", "place", "number", "part"]
theorem sc_Text_key_of : FnScope N_Text_key_of ["self", "place"] (defScope s_Text_key_of) := ⟨rfl, rfl, rfl, by decide +kernel, rfl, by decide +kernel, by decide +kernel⟩
abbrev s_Text_call : Stmt := inClass (top 20) 11
abbrev N_Text_call : List Str := ["self", "place"]
theorem sc_Text_call : FnScope N_Text_call ["self", "place"] (defScope s_Text_call) := ⟨rfl, rfl, rfl, by decide +kernel, rfl, by decide +kernel, by decide +kernel⟩
abbrev s_Text_getitem : Stmt := inClass (top 20) 12
abbrev N_Text_getitem : List Str := ["self", "place"]
theorem sc_Text_getitem : FnScope N_Text_getitem ["self", "place"] (defScope s_Text_getitem) := ⟨rfl, rfl, rfl, by decide +kernel, rfl, by decide +kernel, by decide +kernel⟩
abbrev s_Text_eq : Stmt := inClass (top 20) 14
abbrev N_Text_eq : List Str := ["self", "other"]
theorem sc_Text_eq : FnScope N_Text_eq ["self", "other"] (defScope s_Text_eq) := ⟨rfl, rfl, rfl, by decide +kernel, rfl, by decide +kernel, by decide +kernel⟩
abbrev s_x_law_taken : Stmt := top 31
abbrev N_x_law_taken : List Str := ["_law_row", "_law_many", "_law_found", "_law_cell"]
theorem sc_x_law_taken : FnScope N_x_law_taken ["_law_row", "_law_many"] (defScope s_x_law_taken) := ⟨rfl, rfl, rfl, by decide +kernel, rfl, by decide +kernel, by decide +kernel⟩
abbrev s_x_law_word : Stmt := top 32
abbrev N_x_law_word : List Str := ["_law_row", "_law_most", "_law_word_here", "_law_k"]
theorem sc_x_law_word : FnScope N_x_law_word ["_law_row", "_law_most"] (defScope s_x_law_word) := ⟨rfl, rfl, rfl, by decide +kernel, rfl, by decide +kernel, by decide +kernel⟩
abbrev s_x_law_steps : Stmt := top 33
abbrev N_x_law_steps : List Str := ["_law_row", "_law_count", "_law_most", "_law_steps_here", "_law_size", "_law_k", "_law_word_here", "_law_first", "_law_last", "_law_times"]
theorem sc_x_law_steps : FnScope N_x_law_steps ["_law_row", "_law_count", "_law_most"] (defScope s_x_law_steps) := ⟨rfl, rfl, rfl, by decide +kernel, rfl, by decide +kernel, by decide +kernel⟩
abbrev s_check_range : Stmt := top 28
abbrev N_check_range : List Str := ["text", "first", "last"]
theorem sc_check_range : FnScope N_check_range ["text", "first", "last"] (defScope s_check_range) := ⟨rfl, rfl, rfl, by decide +kernel, rfl, by decide +kernel, by decide +kernel⟩
abbrev s_letters_between : Stmt := top 29
abbrev N_letters_between : List Str := ["text", "first", "last", "place"]
theorem sc_letters_between : FnScope N_letters_between ["text", "first", "last"] (defScope s_letters_between) := ⟨rfl, rfl, rfl, by decide +kernel, rfl, by decide +kernel, by decide +kernel⟩
abbrev s_KeyReader_init : Stmt := inClass (top 25) 0
abbrev N_KeyReader_init : List Str := ["self", "text"]
theorem sc_KeyReader_init : FnScope N_KeyReader_init ["self", "text"] (defScope s_KeyReader_init) := ⟨rfl, rfl, rfl, by decide +kernel, rfl, by decide +kernel, by decide +kernel⟩
abbrev s_KeyReader_head : Stmt := inClass (top 25) 1
abbrev N_KeyReader_head : List Str := ["self", "key"]
theorem sc_KeyReader_head : FnScope N_KeyReader_head ["self", "key"] (defScope s_KeyReader_head) := ⟨rfl, rfl, rfl, by decide +kernel, rfl, by decide +kernel, by decide +kernel⟩
abbrev s_KeyReader_accept_letter : Stmt := inClass (top 25) 2
abbrev N_KeyReader_accept_letter : List Str := ["self", "key", "letter", "head"]
theorem sc_KeyReader_accept_letter : FnScope N_KeyReader_accept_letter ["self", "key", "letter"] (defScope s_KeyReader_accept_letter) := ⟨rfl, rfl, rfl, by decide +kernel, rfl, by decide +kernel, by decide +kernel⟩
abbrev s_KeyReader_known_count : Stmt := inClass (top 25) 3
abbrev N_KeyReader_known_count : List Str := ["self", "key"]
theorem sc_KeyReader_known_count : FnScope N_KeyReader_known_count ["self"] (defScope s_KeyReader_known_count) := ⟨rfl, rfl, rfl, by decide +kernel, rfl, by decide +kernel, by decide +kernel⟩
abbrev s_KeyReader_see : Stmt := inClass (top 25) 4
abbrev N_KeyReader_see : List Str := ["self", "place", "letter", "key"]
theorem sc_KeyReader_see : FnScope N_KeyReader_see ["self", "place", "letter"] (defScope s_KeyReader_see) := ⟨rfl, rfl, rfl, by decide +kernel, rfl, by decide +kernel, by decide +kernel⟩
abbrev s_KeyReader_known_letters : Stmt := inClass (top 25) 8
abbrev N_KeyReader_known_letters : List Str := ["self", "found", "key", "head"]
theorem sc_KeyReader_known_letters : FnScope N_KeyReader_known_letters ["self"] (defScope s_KeyReader_known_letters) := ⟨rfl, rfl, rfl, by decide +kernel, rfl, by decide +kernel, by decide +kernel⟩
abbrev s_KeyReader_observations : Stmt := inClass (top 25) 9
abbrev s_KeyReader_open_heads : Stmt := inClass (top 25) 12
abbrev N_KeyReader_open_heads : List Str := ["self", "key"]
theorem sc_KeyReader_open_heads : FnScope N_KeyReader_open_heads ["self"] (defScope s_KeyReader_open_heads) := ⟨rfl, rfl, rfl, by decide +kernel, rfl, by decide +kernel, by decide +kernel⟩
abbrev s_KeyReader_first_place : Stmt := inClass (top 25) 16
abbrev N_KeyReader_first_place : List Str := ["self", "head", "size", "step"]
theorem sc_KeyReader_first_place : FnScope N_KeyReader_first_place ["self", "head"] (defScope s_KeyReader_first_place) := ⟨rfl, rfl, rfl, by decide +kernel, rfl, by decide +kernel, by decide +kernel⟩
abbrev s_KeyReader_fewest_places : Stmt := inClass (top 25) 15
abbrev N_KeyReader_fewest_places : List Str := ["self", "found", "head"]
theorem sc_KeyReader_fewest_places : FnScope N_KeyReader_fewest_places ["self"] (defScope s_KeyReader_fewest_places) := ⟨rfl, rfl, rfl, by decide +kernel, rfl, by decide +kernel, by decide +kernel⟩
abbrev s_KeyReader_getitem : Stmt := inClass (top 25) 10
abbrev N_KeyReader_getitem : List Str := ["self", "place"]
theorem sc_KeyReader_getitem : FnScope N_KeyReader_getitem ["self", "place"] (defScope s_KeyReader_getitem) := ⟨rfl, rfl, rfl, by decide +kernel, rfl, by decide +kernel, by decide +kernel⟩
abbrev s_KeyReader_see_word : Stmt := inClass (top 25) 5
abbrev N_KeyReader_see_word : List Str := ["self", "first", "word", "kept", "offset", "letter"]
theorem sc_KeyReader_see_word : FnScope N_KeyReader_see_word ["self", "first", "word"] (defScope s_KeyReader_see_word) := ⟨rfl, rfl, rfl, by decide +kernel, rfl, by decide +kernel, by decide +kernel⟩
abbrev s_KeyReader_hear_alike : Stmt := inClass (top 25) 6
abbrev N_KeyReader_hear_alike : List Str := ["self", "place", "other", "one", "two", "low", "high"]
theorem sc_KeyReader_hear_alike : FnScope N_KeyReader_hear_alike ["self", "place", "other"] (defScope s_KeyReader_hear_alike) := ⟨rfl, rfl, rfl, by decide +kernel, rfl, by decide +kernel, by decide +kernel⟩
abbrev s_KeyReader_count_texts : Stmt := inClass (top 25) 13
abbrev N_KeyReader_count_texts : List Str := ["self", "found", "head"]
theorem sc_KeyReader_count_texts : FnScope N_KeyReader_count_texts ["self"] (defScope s_KeyReader_count_texts) := ⟨rfl, rfl, rfl, by decide +kernel, rfl, by decide +kernel, by decide +kernel⟩
abbrev s_KeyReader_is_surely_alike : Stmt := inClass (top 25) 14
abbrev N_KeyReader_is_surely_alike : List Str := ["self", "place", "other", "one", "two"]
theorem sc_KeyReader_is_surely_alike : FnScope N_KeyReader_is_surely_alike ["self", "place", "other"] (defScope s_KeyReader_is_surely_alike) := ⟨rfl, rfl, rfl, by decide +kernel, rfl, by decide +kernel, by decide +kernel⟩
abbrev s_KeyReader_text_with : Stmt := inClass (top 25) 17
abbrev N_KeyReader_text_with : List Str := ["self", "letter", "known", "steps", "key", "step", "word", "offset"]
theorem sc_KeyReader_text_with : FnScope N_KeyReader_text_with ["self", "letter"] (defScope s_KeyReader_text_with) := ⟨rfl, rfl, rfl, by decide +kernel, rfl, by decide +kernel, by decide +kernel⟩
abbrev s_x_law_power : Stmt := top 35
abbrev N_x_law_power : List Str := ["_law_base", "_law_count", "_law_found", "_law_turn"]
theorem sc_x_law_power : FnScope N_x_law_power ["_law_base", "_law_count"] (defScope s_x_law_power) := ⟨rfl, rfl, rfl, by decide +kernel, rfl, by decide +kernel, by decide +kernel⟩
abbrev s_x_law_is_told : Stmt := top 34
abbrev N_x_law_is_told : List Str := ["_law_reader", "_law_text", "_law_tied", "_law_known", "_law_keys", "_law_key", "_law_count", "_law_place"]
theorem sc_x_law_is_told : FnScope N_x_law_is_told ["_law_reader", "_law_text", "_law_tied"] (defScope s_x_law_is_told) := ⟨rfl, rfl, rfl, by decide +kernel, rfl, by decide +kernel, by decide +kernel⟩
abbrev s_x_law_is_seen : Stmt := top 36
abbrev N_x_law_is_seen : List Str := ["_law_row", "_law_reader", "_law_text", "_law_tied", "_law_place", "_law_other", "_law_word_here", "_law_count", "_law_last", "_law_low", "_law_high", "_law_head"]
theorem sc_x_law_is_seen : FnScope N_x_law_is_seen ["_law_row", "_law_reader", "_law_text", "_law_tied"] (defScope s_x_law_is_seen) := ⟨rfl, rfl, rfl, by decide +kernel, rfl, by decide +kernel, by decide +kernel⟩
abbrev s_law : Stmt := top 37
abbrev N_law : List Str := ["_law_script", "_law_row", "_law_turn", "_law_text", "_law_reader", "_law_tied", "_law_again", "_law_other", "_law_known", "_law_key", "_law_places", "_law_place"]
theorem sc_law : FnScope N_law ["_law_script"] (defScope s_law) := ⟨rfl, rfl, rfl, by decide +kernel, rfl, by decide +kernel, by decide +kernel⟩
structure Txt (K : PySem.W.Frag) (mg : Str → Option Value) (CText : Addr) (CPart : Addr) (CKeyReader : Addr) : Prop where
  d_is_integer : DefG K mg "is_integer" s_is_integer ["value", "low", "high"]
  d_is_letter : DefG K mg "is_letter" s_is_letter ["value"]
  d_is_word : DefG K mg "is_word" s_is_word ["value"]
  d_is_step : DefG K mg "is_step" s_is_step ["value", "size"]
  d_Part_init : DefK K CPart "Part.__init__" s_Part_init ["self", "start", "length", "is_typed", "first", "last"]
  d_Part_source : DefM K CPart "source" "Part.source" s_Part_source ["self", "place"]
  d_Text_init : DefKS K CText "Text.__init__" s_Text_init ["self"] "steps"
  d_Text_of_steps : DefC K CText "of_steps" "Text.of_steps" s_Text_of_steps ["cls", "steps"]
  d_Text_steps : DefP K CText "steps" "Text.steps" s_Text_steps
  d_Text_typed_keys : DefP K CText "typed_keys" "Text.typed_keys" s_Text_typed_keys
  d_Text_size : DefP K CText "size" "Text.size" s_Text_size
  d_Text_check_place : DefM K CText "check_place" "Text.check_place" s_Text_check_place ["self", "place"]
  d_Text_key_of : DefM K CText "key_of" "Text.key_of" s_Text_key_of ["self", "place"]
  d_Text_call : DefX K (CallO K CText) "__call__" "Text.__call__" s_Text_call ["self", "place"]
  d_Text_getitem : DefX K (IOwn K CText) "__getitem__" "Text.__getitem__" s_Text_getitem ["self", "place"]
  d_Text_eq : DefX K (EOwn K CText) "__eq__" "Text.__eq__" s_Text_eq ["self", "other"]
  d_x_law_taken : DefG K mg "_law_taken" s_x_law_taken ["_law_row", "_law_many"]
  d_x_law_word : DefG K mg "_law_word" s_x_law_word ["_law_row", "_law_most"]
  d_x_law_steps : DefG K mg "_law_steps" s_x_law_steps ["_law_row", "_law_count", "_law_most"]
  d_check_range : DefG K mg "check_range" s_check_range ["text", "first", "last"]
  d_letters_between : DefG K mg "letters_between" s_letters_between ["text", "first", "last"]
  d_KeyReader_init : DefK K CKeyReader "KeyReader.__init__" s_KeyReader_init ["self", "text"]
  d_KeyReader_head : DefM K CKeyReader "head" "KeyReader.head" s_KeyReader_head ["self", "key"]
  d_KeyReader_accept_letter : DefM K CKeyReader "accept_letter" "KeyReader.accept_letter" s_KeyReader_accept_letter ["self", "key", "letter"]
  d_KeyReader_known_count : DefM K CKeyReader "known_count" "KeyReader.known_count" s_KeyReader_known_count ["self"]
  d_KeyReader_see : DefM K CKeyReader "see" "KeyReader.see" s_KeyReader_see ["self", "place", "letter"]
  d_KeyReader_known_letters : DefP K CKeyReader "known_letters" "KeyReader.known_letters" s_KeyReader_known_letters
  d_KeyReader_observations : DefP K CKeyReader "observations" "KeyReader.observations" s_KeyReader_observations
  d_KeyReader_open_heads : DefM K CKeyReader "open_heads" "KeyReader.open_heads" s_KeyReader_open_heads ["self"]
  d_KeyReader_first_place : DefM K CKeyReader "first_place" "KeyReader.first_place" s_KeyReader_first_place ["self", "head"]
  d_KeyReader_fewest_places : DefM K CKeyReader "fewest_places" "KeyReader.fewest_places" s_KeyReader_fewest_places ["self"]
  d_KeyReader_getitem : DefX K (IOwn K CKeyReader) "__getitem__" "KeyReader.__getitem__" s_KeyReader_getitem ["self", "place"]
  d_KeyReader_see_word : DefM K CKeyReader "see_word" "KeyReader.see_word" s_KeyReader_see_word ["self", "first", "word"]
  d_KeyReader_hear_alike : DefM K CKeyReader "hear_alike" "KeyReader.hear_alike" s_KeyReader_hear_alike ["self", "place", "other"]
  d_KeyReader_count_texts : DefM K CKeyReader "count_texts" "KeyReader.count_texts" s_KeyReader_count_texts ["self"]
  d_KeyReader_is_surely_alike : DefM K CKeyReader "is_surely_alike" "KeyReader.is_surely_alike" s_KeyReader_is_surely_alike ["self", "place", "other"]
  d_KeyReader_text_with : DefM K CKeyReader "text_with" "KeyReader.text_with" s_KeyReader_text_with ["self", "letter"]
  d_x_law_power : DefG K mg "_law_power" s_x_law_power ["_law_base", "_law_count"]
  d_x_law_is_told : DefG K mg "_law_is_told" s_x_law_is_told ["_law_reader", "_law_text", "_law_tied"]
  d_x_law_is_seen : DefG K mg "_law_is_seen" s_x_law_is_seen ["_law_row", "_law_reader", "_law_text", "_law_tied"]
  d_law : DefG K mg "law" s_law ["_law_script"]
  cText : Cls K CText
  g_Text : mg "Text" = some (.ref CText)
  cPart : Cls K CPart
  g_Part : mg "Part" = some (.ref CPart)
  cKeyReader : Cls K CKeyReader
  g_KeyReader : mg "KeyReader" = some (.ref CKeyReader)
  ne_Text_Part : CText ≠ CPart
  ne_Text_KeyReader : CText ≠ CKeyReader
  ne_Part_KeyReader : CPart ≠ CKeyReader
  na_Part_start : NoAttr K CPart "start"
  na_Part_length : NoAttr K CPart "length"
  na_Part_is_typed : NoAttr K CPart "is_typed"
  na_Part_first : NoAttr K CPart "first"
  na_Part_last : NoAttr K CPart "last"
  na_Text_made : NoAttr K CText "made"
  na_Text_typed : NoAttr K CText "typed"
  na_Text_parts : NoAttr K CText "parts"
  na_Text_total : NoAttr K CText "total"
  na_KeyReader_source_text : NoAttr K CKeyReader "source_text"
  na_KeyReader_heads : NoAttr K CKeyReader "heads"
  na_KeyReader_letters : NoAttr K CKeyReader "letters"
  na_KeyReader_seen : NoAttr K CKeyReader "seen"
  k_LETTERS : ∃ t, mg "LETTERS" = some (.str "abcdefghijklmnopqrstuvwxyz" t)
  k_MAX_WORD : ∃ t, mg "MAX_WORD" = some (.int 20 t)
  k_MAX_STEPS : ∃ t, mg "MAX_STEPS" = some (.int 30 t)
  k_MAX_TIMES : ∃ t, mg "MAX_TIMES" = some (.int 1000000000 t)
  k_MAX_SIZE_texts : ∃ t, mg "MAX_SIZE_texts" = some (.int 1000000000000000000 t)
  k_MAX_LISTED : ∃ t, mg "MAX_LISTED" = some (.int 1000 t)
  cg_Text : ClsG K CText
  isi_oo : PySem.W.kitOne K (.ref CText) (.ref CText) = some true
  isi_to : PySem.W.kitOne K (.type "tuple") (.ref CText) = some false
  n_isinstance : mg "isinstance" = none
  n_int : mg "int" = none
  n_bool : mg "bool" = none
  n_str : mg "str" = none
  n_len : mg "len" = none
  n_all : mg "all" = none
  n_tuple : mg "tuple" = none
  n_list : mg "list" = none
  n_range : mg "range" = none
  n_enumerate : mg "enumerate" = none
  n_min : mg "min" = none
  n_max : mg "max" = none
  n_sorted : mg "sorted" = none
  n_dict : mg "dict" = none
  n_set : mg "set" = none
local macro_rules | `(tactic| walk_at "rd1") => `(tactic| first
  | with_reducible refine rd_seq ?_ | with_reducible refine rd_asg ?_ | with_reducible refine rd_name ?_ | ((with_reducible refine' rd_var ?k1 ?_); (case k1 => rfl)) | with_reducible refine rd_C ?_ | with_reducible refine rd_op ?_ | with_reducible refine rd_cons ?_ | with_reducible refine rd_nil ?_
  | with_reducible refine rd_test ?_ | with_reducible refine rd_tB ?_ | with_reducible refine rd_bl ?_ | with_reducible refine rd_ifS ?_ | with_reducible refine rd_and ?_ | with_reducible refine rd_or ?_ | with_reducible refine rd_not ?_ | with_reducible refine rd_andV ?_ | with_reducible refine rd_orV ?_ | with_reducible refine rd_notV ?_ | with_reducible refine rd_chain ?_
  | with_reducible refine rd_if ?_ | with_reducible refine rd_g ?_ | with_reducible refine rd_m ?_ | with_reducible refine rd_star ?_ | with_reducible refine rd_tup ?_ | with_reducible refine rd_lst ?_ | with_reducible refine rd_fld ?_ | with_reducible refine rd_cb ?_ | with_reducible refine rd_un ?_ | with_reducible refine rd_makeR ?_ | with_reducible refine rd_makeS ?_
  | with_reducible refine rd_bm ?_ | with_reducible refine rd_bm0 ?_ | with_reducible refine rd_next ?_ | with_reducible refine rd_break ?_ | with_reducible refine rd_cont ?_ | with_reducible refine rd_ret ?_ | with_reducible refine rd_retN ?_ | with_reducible refine rd_drop ?_ | with_reducible refine rd_gcons ?_ | with_reducible refine rd_gnil ?_ | with_reducible refine rd_gsub ?_
  | ((with_reducible refine' rd_aug ?k1 ?_); (case k1 => rfl)) | with_reducible refine rd_ipI ?_ | with_reducible refine rd_sfld ?_ | with_reducible refine rd_for ?_ | with_reducible refine rd_iStr ?_ | with_reducible refine rd_iList ?_ | with_reducible refine rd_iTup ?_ | with_reducible refine rd_iRng1 ?_ | with_reducible refine rd_iRng2 ?_ | with_reducible refine rd_iEnumT ?_ | with_reducible refine rd_match ?_ | with_reducible refine rd_par ?_ | with_reducible refine rd_two ?_
  | with_reducible refine rd_sl ?_ | with_reducible refine rd_noPart ?_ | with_reducible refine rd_part ?_ | with_reducible refine rd_pint ?_ | with_reducible refine rd_listRg ?_ | with_reducible refine rd_rg1 ?_ | with_reducible refine rd_rg2 ?_ | with_reducible refine rd_ixO ?_ | with_reducible refine rd_U ?_ | with_reducible refine rd_int_int ?_ | with_reducible refine rd_int_bl ?_ | with_reducible refine rd_min2 ?_ | with_reducible refine rd_max2 ?_ | with_reducible refine rd_in_sign ?_ | with_reducible refine rd_isN ?_ | with_reducible refine rd_notN ?_
  | with_reducible refine rd_lc ?_ | with_reducible refine rd_yes ?_ | with_reducible refine rd_prop ?_ | with_reducible refine rd_cmeth ?_ | with_reducible refine rd_o ?_ | with_reducible refine rd_add_int ?_ | with_reducible refine rd_sub ?_ | with_reducible refine rd_eq_int ?_ | with_reducible refine rd_eq_str ?_ | with_reducible refine rd_eq_bl ?_ | with_reducible refine rd_ne_int ?_ | with_reducible refine rd_ne_str ?_ | with_reducible refine rd_ne_bl ?_ | with_reducible refine rd_I0 ?_
  | with_reducible refine rd_isi_int_int ?_ | with_reducible refine rd_isi_int_bool ?_ | with_reducible refine rd_isi_int_str ?_ | with_reducible refine rd_isi_int_list ?_ | with_reducible refine rd_isi_int_tuple ?_ | with_reducible refine rd_isi_bl_int ?_ | with_reducible refine rd_isi_bl_bool ?_ | with_reducible refine rd_isi_bl_str ?_ | with_reducible refine rd_isi_bl_list ?_ | with_reducible refine rd_isi_bl_tuple ?_ | with_reducible refine rd_isi_str_int ?_ | with_reducible refine rd_isi_str_bool ?_ | with_reducible refine rd_isi_str_str ?_ | with_reducible refine rd_isi_str_list ?_ | with_reducible refine rd_isi_str_tuple ?_ | with_reducible refine rd_isi_non_int ?_ | with_reducible refine rd_isi_non_bool ?_ | with_reducible refine rd_isi_non_str ?_ | with_reducible refine rd_isi_non_list ?_ | with_reducible refine rd_isi_non_tuple ?_)
local macro_rules | `(tactic| walk_at "rd") => `(tactic| repeat walk_at "rd1")
local macro_rules | `(tactic| walk_at "same") => `(tactic| first | assumption | exact Same.refl _ | (refine Same.new ?_ (by assumption); walk_at "same") | (refine Same.mut ?_ (by assumption); walk_at "same") | (refine Same.trans ?_ (by assumption); walk_at "same"))
section
variable {P : Program} {w : World} {K : PySem.W.Frag} {mg : Str → Option Value} {base : Heap} {CText CPart CKeyReader : Addr}
theorem ok_is_integer (T : Txt K mg CText CPart CKeyReader) : GOk P w K mg base CX0 1 "is_integer" sp_is_integer := by
  refine T.d_is_integer.ok sc_is_integer (fun vs H Q E h => ?len) (fun f cdv A outer s H vs Q E hr h => ?_)
  case len => obtain ⟨v, lo, hi, rfl, _⟩ := h; rfl
  · obtain ⟨v, lo, hi, rfl, hv, k⟩ := h
    refine ⟨_, (pss_one (ps_ret (pe_and (pe_callB (isiK (K := K) rfl) rfl T.n_isinstance (by decide +kernel) (pa_cons (pv 0) (pa_cons (pe_bltn (v := .ty "int") rfl T.n_int (by decide +kernel) rfl) pa_nil))) (pe_and (pe_not (pe_callB (isiK (K := K) rfl) rfl T.n_isinstance (by decide +kernel) (pa_cons (pv 0) (pa_cons (pe_bltn (v := .ty "bool") rfl T.n_bool (by decide +kernel) rfl) pa_nil)))) (pe_one (pe_chain op_le op_le (pv 1) (pv 0) (pv 2))))))), ?_⟩
    cases v with
    | int i =>
      walk_at "rd"
      refine rd_cT rfl ?_
      walk_at "rd"
      refine rd_cT rfl ?_
      walk_at "rd"
      refine rd_ite (fun h1 => ?_) (fun h1 => ?_)
      · walk_at "rd"
        have e : isInt lo hi (.int i) = decide (i ≤ hi) := by unfold isInt; simp [h1]
        rw [← e]; exact k
      · have e : isInt lo hi (.int i) = false := by unfold isInt; simp [h1]
        rw [e] at k; exact k
    | bl c =>
      walk_at "rd"
      refine rd_cT rfl ?_
      walk_at "rd"
      refine rd_cF rfl ?_
      exact k
    | str x => walk_at "rd"; exact rd_cF rfl k
    | non => walk_at "rd"; exact rd_cF rfl k
    | _ => exact hv.elim
end
section
variable {P : Program} {w : World} {K : PySem.W.Frag} {mg : Str → Option Value} {base : Heap} {CText CPart CKeyReader : Addr}
theorem ok_is_letter (T : Txt K mg CText CPart CKeyReader) : GOk P w K mg base CX0 1 "is_letter" sp_is_letter := by
  refine T.d_is_letter.ok sc_is_letter (fun vs H Q E h => ?len) (fun f cdv A outer s H vs Q E hr h => ?_)
  case len => obtain ⟨v, rfl, _⟩ := h; rfl
  · obtain ⟨v, rfl, hv, hz, k⟩ := h
    obtain ⟨t_LETTERS, h_LETTERS⟩ := T.k_LETTERS; refine ⟨_, (pss_one (ps_ret (pe_and (pe_callB (isiK (K := K) rfl) rfl T.n_isinstance (by decide +kernel) (pa_cons (pv 0) (pa_cons (pe_bltn (v := .ty "str") rfl T.n_str (by decide +kernel) rfl) pa_nil))) (pe_and (pe_cmpR (eqK (K := K) rfl hr.units) (pe_callB (lenK (K := K) rfl) rfl T.n_len (by decide +kernel) (pa_cons (pv 0) pa_nil)) pe_int (nomark _)) (pe_one (pe_cmpR (oInSign) (pv 0) (pe_glob (v := .str "abcdefghijklmnopqrstuvwxyz") rfl h_LETTERS ⟨_, rfl⟩) rfl)))))), ?_⟩
    cases v with
    | str x =>
      walk_at "rd"
      refine rd_cT rfl ?_
      walk_at "rd"
      refine rd_len_str (hz x rfl) ?_
      walk_at "rd"
      refine rd_ite (fun h1 => ?_) (fun h1 => ?_)
      · walk_at "rd"
        obtain ⟨c, hc⟩ := one_sign (Int.ofNat.inj h1)
        subst hc
        walk_at "rd"
        rw [← isLet_one]
        exact k
      · have e : isLet (.str x) = false := isLet_len fun z => h1 (congrArg Int.ofNat z)
        rw [e] at k; exact k
    | bl c => walk_at "rd"; exact rd_cF rfl k
    | int x => walk_at "rd"; exact rd_cF rfl k
    | non => walk_at "rd"; exact rd_cF rfl k
    | _ => exact hv.elim
end
section
variable {P : Program} {w : World} {K : PySem.W.Frag} {mg : Str → Option Value} {base : Heap} {CText CPart CKeyReader : Addr}
theorem ok_is_word (T : Txt K mg CText CPart CKeyReader) : GOk P w K mg base CX0 2 "is_word" sp_is_word := by
  refine T.d_is_word.ok sc_is_word (fun vs H Q E h => ?len) (fun f cdv A outer s H vs Q E hr h => ?_)
  case len => obtain ⟨v, rfl, _⟩ := h; rfl
  · obtain ⟨v, rfl, hv, hz, k⟩ := h
    obtain ⟨t_MAX_WORD, h_MAX_WORD⟩ := T.k_MAX_WORD; refine ⟨_, (pss_one (ps_ret (pe_and (pe_callB (isiK (K := K) rfl) rfl T.n_isinstance (by decide +kernel) (pa_cons (pv 0) (pa_cons (pe_bltn (v := .ty "str") rfl T.n_str (by decide +kernel) rfl) pa_nil))) (pe_and (pe_chain op_le op_le pe_int (pe_callB (lenK (K := K) rfl) rfl T.n_len (by decide +kernel) (pa_cons (pv 0) pa_nil)) (pe_glob (v := .int 20) rfl h_MAX_WORD ⟨_, rfl⟩)) (pe_one (pe_callB (allK (K := K) rfl rfl) rfl T.n_all (by decide +kernel) (pa_cons (pe_lc (own := [("letter", 1)]) rfl sc_is_word.nd (pi_str (pv 0)) (blkOk_by (own := [("letter", 1)]) (N := N_is_word) (sc := (defScope s_is_word)) (by first | decide +kernel | rfl)) (fun _ _ _ _ _ => (pg_name (i := 1) sc_is_word.nd rfl (Or.inl rfl))) (fun _ _ _ _ _ => pts_nil) (fun _ _ _ _ _ => (pe_g (ok_is_letter (K := K) T) (hr.mono (by decide)) pass0 (pa_cons (pv 1) pa_nil)))) pa_nil))))))), ?_⟩
    cases v with
    | str x =>
      walk_at "rd"
      refine rd_cT rfl ?_
      walk_at "rd"
      refine rd_len_str (hz x rfl) ?_
      walk_at "rd"
      refine rd_ite (fun h1 => ?_) (fun h1 => ?_)
      · walk_at "rd"
        refine rd_ite (fun h2 => ?_) (fun h2 => ?_)
        · walk_at "rd"
          refine ⟨x, rfl, fun D hD => lc_fun (f := fun i => .bl (isLet (.str ⟨#[(tl x)[i]?.getD 0]⟩))) plain_str hD (by rw [← len_tl]; exact hz x rfl) (fun _ => rfl) (fun i H1 Q1 hi S q => ?_) fun H1 S eD => ?_⟩
          · walk_at "rd"
            exact ⟨_, rfl, trivial, fun y ey => by cases ey; exact sign_small _, q _ (Same.refl _)⟩
          · walk_at "rd"
            have eb : ((List.range (tl x).length).map fun i => V.bl (isLet (.str ⟨#[(tl x)[i]?.getD 0]⟩))) = ((List.range (tl x).length).map fun i => isLet (.str ⟨#[(tl x)[i]?.getD 0]⟩)).map V.bl := by rw [List.map_map]; rfl
            rw [eb] at eD
            refine rd_all (SqL.of eD) ?_
            rw [isWd_all (by rw [← len_tl]; omega) (by rw [← len_tl]; omega)]
            exact k _ S
        · have e : isWd (.str x) = false := isWd_len (by rw [← len_tl]; omega)
          rw [e] at k; exact k _ (Same.refl _)
      · have e : isWd (.str x) = false := isWd_len (by rw [← len_tl]; omega)
        walk_at "rd"
        refine rd_cF rfl ?_
        rw [e] at k; exact k _ (Same.refl _)
    | bl c => walk_at "rd"; exact rd_cF rfl (k _ (Same.refl _))
    | int x => walk_at "rd"; exact rd_cF rfl (k _ (Same.refl _))
    | non => walk_at "rd"; exact rd_cF rfl (k _ (Same.refl _))
    | _ => exact hv.elim
end
section
variable {P : Program} {w : World} {K : PySem.W.Frag} {mg : Str → Option Value} {base : Heap} {CText CPart CKeyReader : Addr}
theorem ok_is_step (T : Txt K mg CText CPart CKeyReader) : GOk P w K mg base CX0 3 "is_step" (sp_is_step K) := by
  refine T.d_is_step.ok sc_is_step (fun vs H Q E h => ?len) (fun f cdv A outer s H vs Q E hr h => ?_)
  case len => obtain ⟨v, n, s, rfl, _⟩ := h; rfl
  · obtain ⟨v, n, s, rfl, ⟨a, rfl, hq⟩, ok, k⟩ := h
    obtain ⟨t_MAX_TIMES, h_MAX_TIMES⟩ := T.k_MAX_TIMES; refine ⟨_, (pss_one (ps_match (pv 0) (pcs_seq (qs := [.inl "write", .inr 2]) rfl sc_is_step.nd (PatEach.val (PatEach.cap ⟨rfl, (Or.inl rfl), Or.inl rfl⟩ PatEach.nil)) rfl (pt_val (pe_callB (isiK (K := K) rfl) rfl T.n_isinstance (by decide +kernel) (pa_cons (pv 0) (pa_cons (pe_bltn (v := .ty "tuple") rfl T.n_tuple (by decide +kernel) rfl) pa_nil)))) (pss_one (ps_ret (pe_g (ok_is_word (K := K) T) (hr.mono (by decide)) pass0 (pa_cons (pv 2) pa_nil))))
    (pcs_seq (qs := [.inl "paste", .inr 3, .inr 4, .inr 5]) rfl sc_is_step.nd (PatEach.val (PatEach.cap ⟨rfl, (Or.inl rfl), Or.inl rfl⟩ (PatEach.cap ⟨rfl, (Or.inl rfl), Or.inl rfl⟩ (PatEach.cap ⟨rfl, (Or.inl rfl), Or.inl rfl⟩ PatEach.nil)))) rfl (pt_val (pe_callB (isiK (K := K) rfl) rfl T.n_isinstance (by decide +kernel) (pa_cons (pv 0) (pa_cons (pe_bltn (v := .ty "tuple") rfl T.n_tuple (by decide +kernel) rfl) pa_nil)))) (pss_cons (ps_if (PW.pt (pw_or (pt_not (pt_val (pe_g (ok_is_integer (K := K) T) (hr.mono (by decide)) pass0 (pa_cons (pv 4) (pa_cons pe_int (pa_cons (pe_op op_sub (pv 1) pe_int) pa_nil)))))) (pw_or1 (pt_not (pt_val (pe_g (ok_is_integer (K := K) T) (hr.mono (by decide)) pass0 (pa_cons (pv 3) (pa_cons pe_int (pa_cons (pv 4) pa_nil))))))))) (pss_one (ps_ret pe_bl))
    pss_nil)
    (pss_one (ps_ret (pe_g (ok_is_integer (K := K) T) (hr.mono (by decide)) pass0 (pa_cons (pv 5) (pa_cons pe_int (pa_cons (pe_glob (v := .int 1000000000) rfl h_MAX_TIMES ⟨_, rfl⟩) pa_nil)))))))
    (pcs_wild (pss_one (ps_ret pe_bl))))))), ?_⟩
    walk_at "rd"
    cases s with
    | wr w =>
      have e : mBind [.inl "write", .inr 2] (stV (.wr w)) = some [(2, .str w)] := by simp [mBind, stV]
      refine .inr ⟨a, _, rfl, .inl hq, .inr ⟨rfl, ⟨rfl, fun _ => trivial⟩, ?_⟩⟩
      rw [e]
      walk_at "rd"
      refine rd_isi_tup_tuple hq ?_
      walk_at "rd"
      refine rd_cT rfl ?_
      walk_at "rd"
      refine ⟨_, rfl, trivial, fun z ez => by cases ez; exact str_small ok.2.1, fun H' S => ?_⟩
      rw [show isWd (.str w) = true from decide_eq_true (by rw [← len_tl]; exact ok)]
      exact k _ S
    | pa i j t =>
      have e : mBind [.inl "paste", .inr 3, .inr 4, .inr 5] (stV (.pa i j t)) = some [(3, .int i), (4, .int j), (5, .int t)] := by simp [mBind, stV]
      obtain ⟨o1, o2, o3, o4⟩ := ok
      refine .inr ⟨a, _, rfl, .inl hq, .inl ⟨by show 4 ≠ 2; decide, ?_⟩⟩
      refine .inr ⟨a, _, rfl, .inl hq, .inr ⟨rfl, ⟨rfl, fun _ => trivial⟩, ?_⟩⟩
      rw [e]
      walk_at "rd"
      refine rd_isi_tup_tuple hq ?_
      walk_at "rd"
      refine rd_cT rfl ?_
      walk_at "rd"
      refine ⟨_, _, _, rfl, trivial, ?_⟩
      rw [show isInt 0 ((n : Int) - 1) (.int j) = true from decide_eq_true (by omega)]
      walk_at "rd"
      refine rd_cF rfl ?_
      walk_at "rd"
      refine ⟨_, _, _, rfl, trivial, ?_⟩
      rw [show isInt 0 (j : Int) (.int i) = true from decide_eq_true (by omega)]
      walk_at "rd"
      refine rd_cF rfl ?_
      walk_at "rd"
      refine ⟨_, _, _, rfl, trivial, ?_⟩
      rw [show isInt 1 1000000000 (.int t) = true from decide_eq_true (by omega)]
      exact k _ (Same.refl _)
end
section
variable {P : Program} {w : World} {K : PySem.W.Frag} {mg : Str → Option Value} {base : Heap} {CText CPart CKeyReader : Addr}
theorem ok_Part_init (T : Txt K mg CText CPart CKeyReader) : KOk P w K mg base CX0 1 CPart (sp_Part_init CPart) := by
  refine T.d_Part_init.ok sc_Part_init (fun vs H Q E h => ?len) (fun f cdv A outer s H vs Q E hr h => ?_)
  case len => obtain ⟨x, dx, s, n, t, f, l, rfl, _⟩ := h; rfl
  · obtain ⟨x, dx, s0, n, t, f0, l, rfl, hx, k⟩ := h
    refine ⟨_, (pss_cons (ps_fld (pv 0) (pv 1) rfl)
    (pss_cons (ps_fld (pv 0) (pv 2) rfl)
    (pss_cons (ps_fld (pv 0) (pv 3) rfl)
    (pss_cons (ps_fld (pv 0) (pv 4) rfl)
    (pss_one (ps_fld (pv 0) (pv 5) rfl)))))), ?_⟩
    walk_at "rd"
    refine rd_sfld_at hx T.cPart T.na_Part_start (by decide) ?_
    walk_at "rd"
    refine rd_sfld_at upd_same T.cPart T.na_Part_length fl1 ?_
    walk_at "rd"
    refine rd_sfld_at upd_same T.cPart T.na_Part_is_typed fl2 ?_
    walk_at "rd"
    refine rd_sfld_at upd_same T.cPart T.na_Part_first fl3 ?_
    walk_at "rd"
    refine rd_sfld_at upd_same T.cPart T.na_Part_last fl4 ?_
    rw [upd_upd, upd_upd, upd_upd, upd_upd]
    exact k
end
section
variable {P : Program} {w : World} {K : PySem.W.Frag} {mg : Str → Option Value} {base : Heap} {CText CPart CKeyReader : Addr}
theorem ok_Part_source (T : Txt K mg CText CPart CKeyReader) : MOk P w K mg base CX0 1 CPart "source" (sp_Part_source CPart) := by
  refine T.d_Part_source.ok sc_Part_source (fun vs H Q E h => ?len) (fun f cdv A outer s H vs Q E hr h => ?_)
  case len => obtain ⟨p, dx, s, n, t, f, l, z, rfl, _⟩ := h; rfl
  · obtain ⟨p, dx, s0, n, t, f0, l, z, rfl, hp, hfl, k⟩ := h
    refine ⟨_, (pss_cons (ps_if (pt_val (pe_fldK (K := K) rfl (pv 0) (by rfl))) (pss_one (ps_ret (pe_op op_sub (pe_op (addK (K := K) rfl) (pe_fldK (K := K) rfl (pv 0) (by rfl)) (pv 1)) (pe_fldK (K := K) rfl (pv 0) (by rfl)))))
    pss_nil)
    (pss_one (ps_ret (pe_op (addK (K := K) rfl) (pe_fldK (K := K) rfl (pv 0) (by rfl)) (pe_op op_mod (pe_callTy cInt rfl T.n_int (by decide +kernel) (pa_cons (pe_op op_sub (pv 1) (pe_fldK (K := K) rfl (pv 0) (by rfl))) pa_nil)) (pe_op (addK (K := K) rfl) (pe_op op_sub (pe_fldK (K := K) rfl (pv 0) (by rfl)) (pe_fldK (K := K) rfl (pv 0) (by rfl))) pe_int)))))), ?_⟩
    walk_at "rd"
    refine rd_fld_at hp T.cPart T.na_Part_is_typed partF_typed ?_
    walk_at "rd"
    refine rd_iteC (fun ht => ?_) (fun ht => ?_)
    · walk_at "rd"
      refine rd_fld_at hp T.cPart T.na_Part_first partF_first ?_
      walk_at "rd"
      refine rd_fld_at hp T.cPart T.na_Part_start partF_start ?_
      walk_at "rd"
      rw [if_pos ht] at k
      exact k
    · walk_at "rd"
      refine rd_fld_at hp T.cPart T.na_Part_first partF_first ?_
      walk_at "rd"
      refine rd_fld_at hp T.cPart T.na_Part_start partF_start ?_
      walk_at "rd"
      refine rd_fld_at hp T.cPart T.na_Part_last partF_last ?_
      walk_at "rd"
      refine rd_fld_at hp T.cPart T.na_Part_first partF_first ?_
      walk_at "rd"
      refine rd_I (by have := hfl ht; omega) ?_
      walk_at "rd"
      rw [if_neg (by simp [ht])] at k
      exact k
end
section
variable {P : Program} {w : World} {K : PySem.W.Frag} {mg : Str → Option Value} {base : Heap} {CText CPart CKeyReader : Addr}
theorem ok_Text_init (T : Txt K mg CText CPart CKeyReader) : KOk P w K mg base CX0 4 CText (spStar 1 (sp_Text_init K CText CPart)) := by
  refine T.d_Text_init.ok sc_Text_init (fun f cdv A outer s H vs Q E hr h => ?_)
  · obtain ⟨x, dx, m, rs, ss, rfl, hx, hm, hst, ok, few, k⟩ := h
    obtain ⟨t_MAX_SIZE_texts, h_MAX_SIZE_texts⟩ := T.k_MAX_SIZE_texts; obtain ⟨t_MAX_STEPS, h_MAX_STEPS⟩ := T.k_MAX_STEPS; refine ⟨_, (pss_cons (ps_set (i := 2) sc_Text_init.nd rfl (Or.inl rfl) (pe_lst pa_nil))
    (pss_cons (ps_asg (pe_tup (pa_cons pe_str (pa_cons pe_int pa_nil))) (pg_tupK (K := K) (n := 2) rfl rfl (pgs_cons (pg_name (i := 3) sc_Text_init.nd rfl (Or.inl rfl)) (pgs_cons (pg_name (i := 4) sc_Text_init.nd rfl (Or.inl rfl)) pgs_nil))))
    (pss_cons (ps_for PassesOwn.never rfl (pi_enumT T.n_enumerate (pa_cons (pv 1) pa_nil)) (pg_tupK (K := K) (n := 2) rfl rfl (pgs_cons (pg_name (i := 5) sc_Text_init.nd rfl (Or.inl rfl)) (pgs_cons (pg_name (i := 6) sc_Text_init.nd rfl (Or.inl rfl)) pgs_nil))) (pss_cons (ps_if (PW.pt (pw_or (pt_cmpR (eqK (K := K) rfl hr.units) (pv 5) (pe_glob (v := .int 30) rfl h_MAX_STEPS ⟨_, rfl⟩) (nomark _)) (pw_or1 (pt_not (pt_val (pe_g (ok_is_step (K := K) T) (hr.mono (by decide)) pass0 (pa_cons (pv 6) (pa_cons (pv 4) pa_nil)))))))) (pss_one ps_never)
    pss_nil)
    (pss_cons (ps_if (pt_cmpR (eqK (K := K) rfl hr.units) (pe_ix (ixK (K := K) rfl) (pv 6) pe_int (fun _ _ => rfl)) pe_str (nomark _)) (pss_cons (ps_expr (pe_bmK (K := K) rfl PySem.F.plainAttrs_list PySem.F.slot_list_append PySem.F.type_list_append mt_append (pv 2) (pa_cons (pe_k (ok_Part_init (K := K) T) (hr.mono (by decide)) T.g_Part pass0 (pa_cons (pv 4) (pa_cons (pe_callB (lenK (K := K) rfl) rfl T.n_len (by decide +kernel) (pa_cons (pe_ix (ixK (K := K) rfl) (pv 6) pe_int (fun _ _ => rfl)) pa_nil)) (pa_cons pe_bl (pa_cons (pe_callB (lenK (K := K) rfl) rfl T.n_len (by decide +kernel) (pa_cons (pv 3) pa_nil)) (pa_cons pe_int pa_nil)))))) pa_nil)))
    (pss_one (ps_set (i := 3) sc_Text_init.nd rfl (Or.inl rfl) (pe_op (addK (K := K) rfl) (pv 3) (pe_ix (ixK (K := K) rfl) (pv 6) pe_int (fun _ _ => rfl))))))
    (pss_one (ps_expr (pe_bmK (K := K) rfl PySem.F.plainAttrs_list PySem.F.slot_list_append PySem.F.type_list_append mt_append (pv 2) (pa_cons (pe_k (ok_Part_init (K := K) T) (hr.mono (by decide)) T.g_Part pass0 (pa_cons (pv 4) (pa_cons (pe_op oMul (pe_op (addK (K := K) rfl) (pe_op op_sub (pe_ix (ixK (K := K) rfl) (pv 6) pe_int (fun _ _ => rfl)) (pe_ix (ixK (K := K) rfl) (pv 6) pe_int (fun _ _ => rfl))) pe_int) (pe_ix (ixK (K := K) rfl) (pv 6) pe_int (fun _ _ => rfl))) (pa_cons pe_bl (pa_cons (pe_ix (ixK (K := K) rfl) (pv 6) pe_int (fun _ _ => rfl)) (pa_cons (pe_ix (ixK (K := K) rfl) (pv 6) pe_int (fun _ _ => rfl)) pa_nil)))))) pa_nil)))))
    (pss_cons (ps_set (i := 4) sc_Text_init.nd rfl (Or.inl rfl) (pe_op (addK (K := K) rfl) (pe_fldK (K := K) rfl (pe_ix (ixK (K := K) rfl) (pv 2) (pe_un un_neg pe_int) (fun _ _ => rfl)) (by rfl)) (pe_fldK (K := K) rfl (pe_ix (ixK (K := K) rfl) (pv 2) (pe_un un_neg pe_int) (fun _ _ => rfl)) (by rfl))))
    (pss_one (ps_if (pt_cmpR op_gt (pv 4) (pe_glob (v := .int 1000000000000000000) rfl h_MAX_SIZE_texts ⟨_, rfl⟩) (nomark _)) (pss_one ps_never)
    pss_nil))))))
    (pss_cons (ps_fld (pv 0) (pv 1) rfl)
    (pss_cons (ps_fld (pv 0) (pv 3) rfl)
    (pss_cons (ps_fld (pv 0) (pv 2) rfl)
    (pss_one (ps_fld (pv 0) (pv 4) rfl)))))))), ?_⟩
    walk_at "rd"
    refine ⟨Nat.zero_le _, fun pl hpl => ?_⟩
    walk_at "rd"
    refine ⟨two_line, fun tp htp => ?_⟩
    refine rd_gtup (SqT.of upd_same) rfl ?_
    walk_at "rd"
    have S1 : Same H (upd (upd H pl (.lst [])) tp (.tup [.str "", .int 0])) := Same.new (Same.new (Same.refl _) hpl) htp
    refine ⟨m, rs, rfl, Same.tup S1 hm, for_enumT (xs := rs) (fun i σ H' => ∃ ps v5 v6, σ = [some (.ref x), some (.ref m), some (.ref pl), some (.str (mkS (tyL (ss.take i)))), some (.int (sz (ss.take i) : Nat)), v5, v6] ∧ Same H H' ∧ H' pl = some (.lst ps) ∧ PartsAt CPart H' ps (ss.take i))
      ⟨[], _, _, by rw [emp_mk]; rfl, S1, lk_new htp upd_same, rfl, fun j s hj => by simp at hj⟩ (fun i σ H' _ ⟨_, _, _, _, S, _⟩ => Same.tup S hm) ?_ ?_⟩
    · rintro i v tu σ H' hv ⟨ps, v5, v6, rfl, S, hpl', hp⟩ hT
      obtain ⟨s', hs, a, rfl, hq⟩ := hst.at hv
      have hi : i < ss.length := (List.getElem?_eq_some_iff.mp hs).1
      have hok := ok_at ok hs
      have hpsl : ps.length < sizeLine := by rw [hp.1, List.length_take]; have := line30; omega
      walk_at "rd"
      refine rd_gtup (SqT.of upd_same) rfl ?_
      walk_at "rd"
      refine rd_dF (by omega) ?_
      walk_at "rd"
      refine ⟨_, _, s', rfl, ⟨a, rfl, Same.tup (Same.new S hT) hq⟩, hok.1, fun Hb S2 => ?_⟩
      have Sb : Same H Hb := (Same.new S hT).trans S2
      have hplb : Hb pl = some (.lst ps) := S2 _ _ (lk_new hT hpl')
      have hpb : PartsAt CPart Hb ps (ss.take i) := hp.mono ((Same.new (Same.refl _) hT).trans S2)
      have hqb : SqT K Hb a (stV s') := Same.tup Sb hq
      walk_at "rd"
      refine rd_cF rfl ?_
      walk_at "rd"
      cases s' with
      | wr w =>
        refine rd_ixT ?_ hqb rfl
        walk_at "rd"
        refine rd_dT rfl ?_
        walk_at "rd"
        refine rd_tyL (SqL.of hplb) _ ?_
        walk_at "rd"
        refine rd_ixT ?_ hqb rfl
        walk_at "rd"
        refine rd_len_str (str_small hok.1.2.1) ?_
        walk_at "rd"
        refine rd_len_str (by rw [mkS_len]; exact Nat.le_trans (tyL_take_le i) (tyL_line ok few)) ?_
        walk_at "rd"
        refine rd_mkPart (fun p dxp Hc np SC hpc => ?_)
        walk_at "rd"
        have hplc := SC _ _ hplb
        have nplp : pl ≠ p := ne_of_none hplb np
        refine rd_append hplc hpsl ?_
        have S3 := Same.mut (o := HO.lst (ps ++ [V.ref p])) (Sb.trans SC) hpl
        have E2 := @upd_same Hc pl (HO.lst (ps ++ [V.ref p]))
        have E4 := lk_ne (o := HO.lst (ps ++ [V.ref p])) nplp.symm hpc
        have E3 := hpb.snoc hs (But.at (o := HO.lst (ps ++ [V.ref p])) (But.same SC)) (fun dx fs e => by rw [hplb] at e; cases e) (v := .ref p) ⟨p, dxp, rfl, by rw [mkS_len] at E4; exact E4⟩
        revert S3 E2 E3 E4
        generalize upd Hc pl (HO.lst (ps ++ [V.ref p])) = Hd
        intro S3 E2 E4 E3
        walk_at "rd"
        refine rd_ixT ?_ (Same.tup S3 hq) rfl
        refine rd_add_str (by rw [mkS_len, len_tl, ← List.length_append]; have := tyL_line (ok_take ok (i + 1)) (by rw [List.length_take]; omega); rw [tyL_take hs] at this; exact this) ?_
        walk_at "rd"
        refine rd_ixI ?_ (SqL.of E2) (atI_last _ _)
        refine rd_fld_at E4 T.cPart T.na_Part_start partF_start ?_
        walk_at "rd"
        refine rd_ixI ?_ (SqL.of E2) (atI_last _ _)
        refine rd_fld_at E4 T.cPart T.na_Part_length partF_length ?_
        walk_at "rd"
        refine rd_dF (by have := hok.2; simp only [len1] at this; omega) ?_
        walk_at "rd"
        refine ⟨_, some (.int i), some (.ref a), ?_, S3, E2, E3⟩
        rw [show (w : Str) = mkS (tl w) from (mkS_tl w).symm, mkS_app, tyL_take hs, sz_take hs, mkS_tl]
        rfl
      | pa f l t =>
        obtain ⟨⟨o1, o2, o3, o4⟩, o5⟩ := hok
        simp only [len1] at o5
        refine rd_ixT ?_ hqb rfl
        walk_at "rd"
        refine rd_dF (by decide +kernel) ?_
        walk_at "rd"
        refine rd_tyL (SqL.of hplb) _ ?_
        walk_at "rd"
        refine rd_ixT ?_ hqb rfl
        walk_at "rd"
        refine rd_ixT ?_ hqb rfl
        walk_at "rd"
        refine rd_ixT ?_ hqb rfl
        walk_at "rd"
        refine rd_mul_int (Or.inl ⟨by omega, by omega⟩) ?_
        walk_at "rd"
        refine rd_ixT ?_ hqb rfl
        walk_at "rd"
        refine rd_ixT ?_ hqb rfl
        walk_at "rd"
        refine rd_mkPart (fun p dxp Hc np SC hpc => ?_)
        walk_at "rd"
        have hplc := SC _ _ hplb
        have nplp : pl ≠ p := ne_of_none hplb np
        refine rd_append hplc hpsl ?_
        rw [show ((l : Int) - f + 1) * t = (((l - f + 1) * t : Nat) : Int) by rw [Int.natCast_mul]; congr 1; omega] at hpc
        have S3 := Same.mut (o := HO.lst (ps ++ [V.ref p])) (Sb.trans SC) hpl
        have E2 := @upd_same Hc pl (HO.lst (ps ++ [V.ref p]))
        have E4 := lk_ne (o := HO.lst (ps ++ [V.ref p])) nplp.symm hpc
        have E3 := hpb.snoc hs (But.at (o := HO.lst (ps ++ [V.ref p])) (But.same SC)) (fun dx fs e => by rw [hplb] at e; cases e) (v := .ref p) ⟨p, dxp, rfl, E4⟩
        revert S3 E2 E3 E4
        generalize upd Hc pl (HO.lst (ps ++ [V.ref p])) = Hd
        intro S3 E2 E4 E3
        walk_at "rd"
        refine rd_ixI ?_ (SqL.of E2) (atI_last _ _)
        refine rd_fld_at E4 T.cPart T.na_Part_start partF_start ?_
        walk_at "rd"
        refine rd_ixI ?_ (SqL.of E2) (atI_last _ _)
        refine rd_fld_at E4 T.cPart T.na_Part_length partF_length ?_
        walk_at "rd"
        refine rd_dF (by omega) ?_
        walk_at "rd"
        refine ⟨_, some (.int i), some (.ref a), ?_, S3, E2, E3⟩
        rw [tyL_take hs, sz_take hs]
        simp only [ty1, List.append_nil, len1, Int.natCast_add]
        rfl
    · rintro σ H' ⟨ps, v5, v6, rfl, S, hpl', hp⟩
      rw [hst.1, List.take_length] at hp ⊢
      have hx' := S _ _ hx
      have hm' : SqT K H' m rs := Same.tup S hm
      have hst' := hst.mono S
      have npl : pl ≠ x := fun e => by subst e; rw [hx] at hpl; cases hpl
      walk_at "rd"
      refine rd_sfld_at hx' T.cText T.na_Text_made (by decide) ?_
      walk_at "rd"
      refine rd_sfld_at upd_same T.cText T.na_Text_typed fl1 ?_
      walk_at "rd"
      refine rd_sfld_at upd_same T.cText T.na_Text_parts fl2 ?_
      walk_at "rd"
      refine rd_sfld_at upd_same T.cText T.na_Text_total fl3 ?_
      have B : But x H' (upd (upd (upd (upd H' x (HO.ins CText dx (putF "made" (.ref m) []))) x (HO.ins CText dx (putF "typed" (.str (mkS (tyL ss))) (putF "made" (.ref m) [])))) x (HO.ins CText dx (putF "parts" (.ref pl) (putF "typed" (.str (mkS (tyL ss))) (putF "made" (.ref m) []))))) x (HO.ins CText dx (putF "total" (.int (sz ss : Nat)) (putF "parts" (.ref pl) (putF "typed" (.str (mkS (tyL ss))) (putF "made" (.ref m) [])))))) := But.at (But.at (But.at (But.at But.refl)))
      refine k _ ⟨ss, dx, m, pl, rs, ps⟩ (fun b o hb e => B _ _ hb (S _ _ e)) ⟨upd_same, B.tup (free1_ins hx') hm', B.steps (free1_ins hx') hst', B _ _ npl hpl', PartsAt.but B (fun dx fs e => ?_) hp, ok, few⟩ rfl rfl
      rw [hx'] at e
      cases e
      exact T.ne_Text_Part rfl
end
section
variable {P : Program} {w : World} {K : PySem.W.Frag} {mg : Str → Option Value} {base : Heap} {CText CPart CKeyReader : Addr}
theorem ok_Text_of_steps (T : Txt K mg CText CPart CKeyReader) : COk P w K mg base CX0 6 CText "of_steps" (sp_Text_of_steps K CText CPart) := by
  refine T.d_Text_of_steps.ok sc_Text_of_steps (fun vs H Q E h => ?len) (fun f cdv A outer s H vs Q E hr h => ?_)
  case len => obtain ⟨a, ms, ss, rfl, _⟩ := h; rfl
  · obtain ⟨a, ms, ss, rfl, hq, hst, ok, few, k⟩ := h
    refine ⟨_, (pss_one (ps_ret (pe_ks (pv 0) (ok_Text_init (K := K) T) (hr.mono (by decide)) pass0 (pv 1)))), ?_⟩
    walk_at "rd"
    refine ⟨rfl, ?_⟩
    walk_at "rd"
    exact rd_mkS hq (rd_mkText hst ok few fun x Hc t nx S T e => k Hc x t S T e)
end
section
variable {P : Program} {w : World} {K : PySem.W.Frag} {mg : Str → Option Value} {base : Heap} {CText CPart CKeyReader : Addr}
theorem ok_Text_steps (T : Txt K mg CText CPart CKeyReader) : POk P w K mg base CX0 1 CText "steps" (sp_Text_steps K CText CPart) := by
  refine T.d_Text_steps.ok sc_Text_steps (fun vs H Q E h => ?len) (fun f cdv A outer s H vs Q E hr h => ?_)
  case len => obtain ⟨a, t, rfl, _⟩ := h; rfl
  · obtain ⟨a, t, rfl, ht, k⟩ := h
    refine ⟨_, (pss_one (ps_ret (pe_fldK (K := K) rfl (pv 0) (by rfl)))), ?_⟩
    walk_at "rd"
    exact rd_fld_at ht.ins T.cText T.na_Text_made textF_made k
end
section
variable {P : Program} {w : World} {K : PySem.W.Frag} {mg : Str → Option Value} {base : Heap} {CText CPart CKeyReader : Addr}
theorem ok_Text_typed_keys (T : Txt K mg CText CPart CKeyReader) : POk P w K mg base CX0 1 CText "typed_keys" (sp_Text_typed_keys K CText CPart) := by
  refine T.d_Text_typed_keys.ok sc_Text_typed_keys (fun vs H Q E h => ?len) (fun f cdv A outer s H vs Q E hr h => ?_)
  case len => obtain ⟨a, t, rfl, _⟩ := h; rfl
  · obtain ⟨a, t, rfl, ht, k⟩ := h
    refine ⟨_, (pss_one (ps_ret (pe_fldK (K := K) rfl (pv 0) (by rfl)))), ?_⟩
    walk_at "rd"
    exact rd_fld_at ht.ins T.cText T.na_Text_typed textF_typed k
end
section
variable {P : Program} {w : World} {K : PySem.W.Frag} {mg : Str → Option Value} {base : Heap} {CText CPart CKeyReader : Addr}
theorem ok_Text_size (T : Txt K mg CText CPart CKeyReader) : POk P w K mg base CX0 1 CText "size" (sp_Text_size K CText CPart) := by
  refine T.d_Text_size.ok sc_Text_size (fun vs H Q E h => ?len) (fun f cdv A outer s H vs Q E hr h => ?_)
  case len => obtain ⟨a, t, rfl, _⟩ := h; rfl
  · obtain ⟨a, t, rfl, ht, k⟩ := h
    refine ⟨_, (pss_one (ps_ret (pe_fldK (K := K) rfl (pv 0) (by rfl)))), ?_⟩
    walk_at "rd"
    exact rd_fld_at ht.ins T.cText T.na_Text_total textF_total k
end
section
variable {P : Program} {w : World} {K : PySem.W.Frag} {mg : Str → Option Value} {base : Heap} {CText CPart CKeyReader : Addr}
theorem ok_Text_check_place (T : Txt K mg CText CPart CKeyReader) : MOk P w K mg base CX0 2 CText "check_place" (sp_Text_check_place K CText CPart) := by
  refine T.d_Text_check_place.ok sc_Text_check_place (fun vs H Q E h => ?len) (fun f cdv A outer s H vs Q E hr h => ?_)
  case len => obtain ⟨a, t, v, rfl, _⟩ := h; rfl
  · obtain ⟨a, t, v, rfl, ht, hv, hi, k⟩ := h
    refine ⟨_, (pss_one (ps_if (pt_not (pt_val (pe_g (ok_is_integer (K := K) T) (hr.mono (by decide)) pass0 (pa_cons (pv 1) (pa_cons pe_int (pa_cons (pe_op op_sub (pe_fldK (K := K) rfl (pv 0) (by rfl)) pe_int) pa_nil)))))) (pss_one ps_never)
    pss_nil)), ?_⟩
    walk_at "rd"
    refine rd_fld_at ht.ins T.cText T.na_Text_total textF_total ?_
    walk_at "rd"
    refine ⟨v, _, _, rfl, hv, ?_⟩
    rw [hi]
    walk_at "rd"
    refine rd_cF rfl ?_
    walk_at "rd"
    exact k
end
section
variable {P : Program} {w : World} {K : PySem.W.Frag} {mg : Str → Option Value} {base : Heap} {CText CPart CKeyReader : Addr}
theorem ok_Text_key_of (T : Txt K mg CText CPart CKeyReader) : MOk P w K mg base CX0 2 CText "key_of" (sp_Text_key_of K CText CPart) := by
  refine T.d_Text_key_of.ok sc_Text_key_of (fun vs H Q E h => ?len) (fun f cdv A outer s H vs Q E hr h => ?_)
  case len => obtain ⟨a, t, p, k, rfl, _⟩ := h; rfl
  · obtain ⟨a, t, p, k, rfl, ht, hk, q⟩ := h
    have hp : p < sz t.ss := by rw [← ks_len ht.ok]; exact (List.getElem?_eq_some_iff.mp hk).1
    refine ⟨_, (pss_cons (ps_set (i := 2) sc_Text_key_of.nd rfl (Or.inl rfl) (pe_op op_sub (pe_callB (lenK (K := K) rfl) rfl T.n_len (by decide +kernel) (pa_cons (pe_fldK (K := K) rfl (pv 0) (by rfl)) pa_nil)) pe_int))
    (pss_cons (ps_while PassesOwn.never (pt_cmpR op_ge (pv 2) pe_int (nomark _)) (pss_cons (ps_set (i := 3) sc_Text_key_of.nd rfl (Or.inl rfl) (pe_ix (ixK (K := K) rfl) (pe_fldK (K := K) rfl (pv 0) (by rfl)) (pv 2) (fun _ _ => rfl)))
    (pss_cons (ps_if (pt_cmpR op_ge (pv 1) (pe_fldK (K := K) rfl (pv 3) (by rfl)) (nomark _)) (pss_cons (ps_set (i := 1) sc_Text_key_of.nd rfl (Or.inl rfl) (pe_m (pv 3) T.cPart (ok_Part_source (K := K) T) (hr.mono (by decide)) pass0 (pa_cons (pv 1) pa_nil)))
    (pss_one (ps_if (pt_val (pe_fldK (K := K) rfl (pv 3) (by rfl))) (pss_one ps_break)
    pss_nil)))
    pss_nil)
    (pss_one (ps_aug (i := 2) sc_Text_key_of.nd rfl (Or.inl rfl) pe_int ip_sub)))))
    (pss_one (ps_ret (pv 1))))), ?_⟩
    walk_at "rd"
    refine rd_fld_at ht.ins T.cText T.na_Text_parts textF_parts ?_
    walk_at "rd"
    refine rd_len_lst (SqL.of ht.pls) ?_
    walk_at "rd"
    refine rd_while (fun j σ H' => ∃ (p' : Nat), ∃ v3, σ = [some (.ref a), some (.int p'), some (.int ((j : Int) - 1)), v3] ∧ H = H' ∧ j ≤ t.ss.length ∧ p' < sz (t.ss.take j) ∧ (ks t.ss)[p']? = some k) ⟨t.ss.length, p, none, by rw [ht.prt.1]; rfl, rfl, Nat.le_refl _, by rw [List.take_length]; exact hp, hk⟩ ?_
    rintro j σ H' ⟨p', v3, rfl, rfl, hj, hp', hk'⟩
    have j0 : 0 < j := by
      rcases Nat.eq_zero_or_pos j with e | e
      · subst e; simp [sz] at hp'
      · exact e
    obtain ⟨i, rfl⟩ : ∃ i, j = i + 1 := ⟨j - 1, by omega⟩
    have hs : t.ss[i]? = some (t.ss[i]'(by omega)) := List.getElem?_eq_getElem _
    have hsz := sz_take hs
    have ei : (((i + 1 : Nat) : Int) - 1) = (i : Nat) := by omega
    rw [ei]
    obtain ⟨v, hv, hpart⟩ := ht.prt.2 i _ hs
    have wf := (ok_at ht.ok hs).1
    walk_at "rd"
    refine rd_dT (by omega) ⟨fun σ' H' => ∃ m', m' < i + 1 ∧ ∃ (p' : Nat), ∃ v3, σ' = [some (.ref a), some (.int p'), some (.int ((m' : Int) - 1)), v3] ∧ H = H' ∧ m' ≤ t.ss.length ∧ p' < sz (t.ss.take m') ∧ (ks t.ss)[p']? = some k, fun σ' H' z => z, ?_⟩
    walk_at "rd"
    refine rd_fld_at ht.ins T.cText T.na_Text_parts textF_parts ?_
    walk_at "rd"
    refine rd_ixLn (SqL.of ht.pls) hv ?_
    walk_at "rd"
    cases e : t.ss[i]'(by omega) with
    | wr w =>
      rw [e] at hpart hs hsz wf
      obtain ⟨pp, dp, rfl, hP⟩ := hpart
      refine rd_fld_at hP T.cPart T.na_Part_start partF_start ?_
      walk_at "rd"
      refine rd_ite (fun h1 => ?_) (fun h1 => ?_)
      · walk_at "rd"
        refine rd_m_at ⟨_, _, hP, partF_no (by decide +kernel)⟩ ?_
        walk_at "rd"
        refine ⟨pp, dp, _, _, _, _, _, _, rfl, hP, fun z => (by cases z), ?_⟩
        rw [if_pos rfl]
        walk_at "rd"
        refine rd_fld_at hP T.cPart T.na_Part_is_typed partF_typed ?_
        walk_at "rd"
        refine rd_cT rfl ?_
        walk_at "rd"
        have := ks_wr ht.ok hs (p := p') (by omega) hp'
        rw [hk'] at this
        rw [show ((tyL (t.ss.take i)).length : Int) + (p' : Int) - (sz (t.ss.take i) : Nat) = (k : Nat) by cases this; omega]
        exact q
      · walk_at "rd"
        exact ⟨i, by omega, p', _, rfl, rfl, by omega, by omega, hk'⟩
    | pa f l u =>
      rw [e] at hpart hs hsz wf
      obtain ⟨pp, dp, rfl, hP⟩ := hpart
      refine rd_fld_at hP T.cPart T.na_Part_start partF_start ?_
      walk_at "rd"
      refine rd_ite (fun h1 => ?_) (fun h1 => ?_)
      · walk_at "rd"
        refine rd_m_at ⟨_, _, hP, partF_no (by decide +kernel)⟩ ?_
        walk_at "rd"
        refine ⟨pp, dp, _, _, _, _, _, _, rfl, hP, fun _ => (by have := wf.1; omega), ?_⟩
        rw [if_neg Bool.false_ne_true]
        walk_at "rd"
        refine rd_fld_at hP T.cPart T.na_Part_is_typed partF_typed ?_
        walk_at "rd"
        refine rd_cF rfl ?_
        walk_at "rd"
        have := ks_pa ht.ok hs (p := p') (by omega) hp'
        have fl := wf.1
        refine ⟨i, by omega, f + (p' - sz (t.ss.take i)) % (l - f + 1), some (.ref pp), ?_, rfl, by omega, this.1, by rw [← this.2]; exact hk'⟩
        rw [show ((f : Nat) : Int) + ((p' : Nat) - (sz (t.ss.take i) : Nat) : Int) % ((l : Nat) - (f : Nat) + 1 : Int) = ((f + (p' - sz (t.ss.take i)) % (l - f + 1) : Nat) : Int) by
          rw [Int.natCast_add, Int.natCast_emod, Int.natCast_sub (by omega), Int.natCast_add, Int.natCast_sub fl]; rfl]
        rfl
      · walk_at "rd"
        exact ⟨i, by omega, p', _, rfl, rfl, by omega, by omega, hk'⟩
end
section
variable {P : Program} {w : World} {K : PySem.W.Frag} {mg : Str → Option Value} {base : Heap} {CText CPart CKeyReader : Addr}
theorem ok_Text_call (T : Txt K mg CText CPart CKeyReader) : XOk P w K mg base CX0 3 (CallO K CText) (sp_Text_call K CText CPart) := by
  refine T.d_Text_call.ok sc_Text_call (fun vs H Q E h => ?len) (fun f cdv A outer s H vs Q E hr h => ?_)
  case len => obtain ⟨a, t, p, k, rfl, _⟩ := h; rfl
  · obtain ⟨a, t, p, k, rfl, ht, hk, q⟩ := h
    have hp : p < sz t.ss := by rw [← ks_len ht.ok]; exact (List.getElem?_eq_some_iff.mp hk).1
    refine ⟨_, (pss_cons (ps_expr (pe_m (pv 0) T.cText (ok_Text_check_place (K := K) T) (hr.mono (by decide)) pass0 (pa_cons (pv 1) pa_nil)))
    (pss_one (ps_ret (pe_m (pv 0) T.cText (ok_Text_key_of (K := K) T) (hr.mono (by decide)) pass0 (pa_cons (pv 1) pa_nil))))), ?_⟩
    walk_at "rd"
    refine rd_m_at ht.insM ?_
    walk_at "rd"
    refine ⟨a, t, _, rfl, ht, trivial, decide_eq_true (by omega), ?_⟩
    walk_at "rd"
    refine rd_m_at ht.insM ?_
    walk_at "rd"
    exact ⟨a, t, p, k, rfl, ht, hk, q⟩
end
section
variable {P : Program} {w : World} {K : PySem.W.Frag} {mg : Str → Option Value} {base : Heap} {CText CPart CKeyReader : Addr}
theorem ok_Text_getitem (T : Txt K mg CText CPart CKeyReader) : XOk P w K mg base CX0 3 (IOwn K CText) (sp_Text_getitem K CText CPart) := by
  refine T.d_Text_getitem.ok sc_Text_getitem (fun vs H Q E h => ?len) (fun f cdv A outer s H vs Q E hr h => ?_)
  case len => obtain ⟨a, t, p, k, c, rfl, _⟩ := h; rfl
  · obtain ⟨a, t, p, k, c, rfl, ht, hk, hc, q⟩ := h
    have hp : p < sz t.ss := by rw [← ks_len ht.ok]; exact (List.getElem?_eq_some_iff.mp hk).1
    refine ⟨_, (pss_cons (ps_if (pt_not (pt_val (pe_g (ok_is_integer (K := K) T) (hr.mono (by decide)) pass0 (pa_cons (pv 1) (pa_cons pe_int (pa_cons (pe_op op_sub (pe_fldK (K := K) rfl (pv 0) (by rfl)) pe_int) pa_nil)))))) (pss_one ps_never)
    pss_nil)
    (pss_one (ps_ret (pe_ix (ixK (K := K) rfl) (pe_fldK (K := K) rfl (pv 0) (by rfl)) (pe_m (pv 0) T.cText (ok_Text_key_of (K := K) T) (hr.mono (by decide)) pass0 (pa_cons (pv 1) pa_nil)) (fun _ _ => rfl))))), ?_⟩
    walk_at "rd"
    refine rd_fld_at ht.ins T.cText T.na_Text_total textF_total ?_
    walk_at "rd"
    refine ⟨_, _, _, rfl, trivial, ?_⟩
    rw [show isInt 0 ((sz t.ss : Nat) - 1 : Int) (.int p) = true from decide_eq_true (by omega)]
    walk_at "rd"
    refine rd_cF rfl ?_
    walk_at "rd"
    refine rd_fld_at ht.ins T.cText T.na_Text_typed textF_typed ?_
    walk_at "rd"
    refine rd_m_at ht.insM ?_
    walk_at "rd"
    exact ⟨a, t, p, k, rfl, ht, hk, rd_ixSn ht.typed_small hc q⟩
end
section
variable {P : Program} {w : World} {K : PySem.W.Frag} {mg : Str → Option Value} {base : Heap} {CText CPart CKeyReader : Addr}
theorem ok_Text_eq (T : Txt K mg CText CPart CKeyReader) : XOk P w K mg base CX0 1 (EOwn K CText) (sp_Text_eq K CText CPart) := by
  refine T.d_Text_eq.ok sc_Text_eq (fun vs H Q E h => ?len) (fun f cdv A outer s H vs Q E hr h => ?_)
  case len => obtain ⟨a, b, t, rfl, _⟩ := h; rfl
  · obtain ⟨a, b, t, rfl, ht, h⟩ := h
    refine ⟨_, (pss_one (ps_ret (pe_and (pe_callB (isiK (K := K) rfl) rfl T.n_isinstance (by decide +kernel) (pa_cons (pv 1) (pa_cons (pe_glob (v := .ref CText) rfl T.g_Text rfl) pa_nil))) (pe_one (pe_cmpR (eqK (K := K) rfl hr.units) (pe_fldK (K := K) rfl (pv 0) (by rfl)) (pe_fldK (K := K) rfl (pv 1) (by rfl)) (nomark _)))))), ?_⟩
    walk_at "rd"
    rcases h with ⟨u, hu, k⟩ | ⟨xs, hq, k⟩
    · refine rd_isi_own hu.ins T.cText T.cg_Text T.isi_oo ?_
      walk_at "rd"
      refine rd_cT rfl ?_
      walk_at "rd"
      refine rd_fld_at ht.ins T.cText T.na_Text_made textF_made ?_
      walk_at "rd"
      refine rd_fld_at hu.ins T.cText T.na_Text_made textF_made ?_
      refine rd_eq_dat (.tup ht.made ht.stp.dp) (.tup hu.made hu.stp.dp) (steps_dok ht.ok).shaped (steps_dok hu.ok).shaped ?_
      simp only [PyData.eqv]
      rw [stDs_eq]
      exact k
    · refine rd_isi_tupO hq T.isi_to ?_
      walk_at "rd"
      refine rd_cF rfl k
end
section
variable {P : Program} {w : World} {K : PySem.W.Frag} {mg : Str → Option Value} {base : Heap} {CText CPart CKeyReader : Addr}
theorem ok_x_law_taken (T : Txt K mg CText CPart CKeyReader) : GOk P w K mg base CX0 1 "_law_taken" (sp_x_law_taken K) := by
  refine T.d_x_law_taken.ok sc_x_law_taken (fun vs H Q E h => ?len) (fun f cdv A outer s H vs Q E hr h => ?_)
  case len => obtain ⟨r, many, rfl, _⟩ := h; rfl
  · obtain ⟨r, many, rfl, ⟨sa, sc, i, sd, e, hr', hsc⟩, m1, m2, k⟩ := h
    refine ⟨_, (pss_cons (ps_if (pt_cmpR op_gt (pe_ix (ixK (K := K) rfl) (pv 0) pe_int (fun _ _ => rfl)) pe_int (nomark _)) (pss_cons (ps_set (i := 2) sc_x_law_taken.nd rfl (Or.inl rfl) (pe_op op_mod (pe_callTy cInt rfl T.n_int (by decide +kernel) (pa_cons (pe_ix (ixK (K := K) rfl) (pv 0) pe_int (fun _ _ => rfl)) pa_nil)) (pv 1)))
    (pss_cons (ps_asg (pe_op op_fdiv (pe_ix (ixK (K := K) rfl) (pv 0) pe_int (fun _ _ => rfl)) (pv 1)) (pg_sub (pv 0) pe_int set_list))
    (pss_one (ps_ret (pv 2)))))
    pss_nil)
    (pss_cons (ps_asg (pe_op (addK (K := K) rfl) (pe_ix (ixK (K := K) rfl) (pv 0) pe_int (fun _ _ => rfl)) pe_int) (pg_sub (pv 0) pe_int set_list))
    (pss_cons (ps_if (pt_cmpR op_gt (pe_ix (ixK (K := K) rfl) (pv 0) pe_int (fun _ _ => rfl)) (pe_callB (lenK (K := K) rfl) rfl T.n_len (by decide +kernel) (pa_cons (pe_ix (ixK (K := K) rfl) (pv 0) pe_int (fun _ _ => rfl)) pa_nil)) (nomark _)) (pss_cons (ps_asg (pe_op op_mod (pe_callTy cInt rfl T.n_int (by decide +kernel) (pa_cons (pe_op (addK (K := K) rfl) (pe_op oMul (pe_ix (ixK (K := K) rfl) (pv 0) pe_int (fun _ _ => rfl)) pe_int) pe_int) pa_nil)) pe_int) (pg_sub (pv 0) pe_int set_list))
    (pss_one (ps_ret (pe_op op_mod (pe_callTy cInt rfl T.n_int (by decide +kernel) (pa_cons (pe_op op_fdiv (pe_ix (ixK (K := K) rfl) (pv 0) pe_int (fun _ _ => rfl)) pe_int) pa_nil)) (pv 1)))))
    pss_nil)
    (pss_cons (ps_set (i := 3) sc_x_law_taken.nd rfl (Or.inl rfl) (pe_ix (ixK (K := K) rfl) (pe_ix (ixK (K := K) rfl) (pv 0) pe_int (fun _ _ => rfl)) (pe_op op_sub (pe_ix (ixK (K := K) rfl) (pv 0) pe_int (fun _ _ => rfl)) pe_int) (fun _ _ => rfl)))
    (pss_cons (ps_asg (pe_op op_mod (pe_callTy cInt rfl T.n_int (by decide +kernel) (pa_cons (pe_op (addK (K := K) rfl) (pe_op (addK (K := K) rfl) (pe_op oMul (pe_ix (ixK (K := K) rfl) (pv 0) pe_int (fun _ _ => rfl)) pe_int) (pv 3)) pe_int) pa_nil)) pe_int) (pg_sub (pv 0) pe_int set_list))
    (pss_cons (ps_if (pt_cmpR op_ge (pv 3) (pe_op op_pow pe_int pe_int) (nomark _)) (pss_one (ps_asg (pe_op op_fdiv (pv 3) (pv 1)) (pg_sub (pv 0) pe_int set_list)))
    pss_nil)
    (pss_one (ps_ret (pe_op op_mod (pe_callTy cInt rfl T.n_int (by decide +kernel) (pa_cons (pv 3) pa_nil)) (pv 1)))))))))), ?_⟩
    walk_at "rd"
    refine rd_ixI ?_ (SqL.of hr') rfl
    walk_at "rd"
    refine rd_ite (fun h1 => ?_) (fun h1 => ?_)
    · walk_at "rd"
      refine rd_ixI ?_ (SqL.of hr') rfl
      walk_at "rd"
      refine rd_I (by omega) ?_
      walk_at "rd"
      refine rd_ixI ?_ (SqL.of hr') rfl
      walk_at "rd"
      refine rd_I ⟨by omega, by omega⟩ ?_
      walk_at "rd"
      refine rd_setL (j := 3) hr' rfl ?_
      walk_at "rd"
      obtain ⟨a1, a2, a3⟩ := row_put (j := i) (s' := sd) (e' := e / (many : Nat)) Kp.refl hr' hsc
      exact take_fin m1 e fun n hn => k n _ hn a1 ⟨sa, sc, _, _, _, a2, a3⟩
    · walk_at "rd"
      refine rd_ixI ?_ (SqL.of hr') rfl
      walk_at "rd"
      refine rd_setL (j := 1) hr' rfl ?_
      walk_at "rd"
      obtain ⟨a1, a2, a3⟩ := row_put (j := i + 1) (s' := sd) (e' := e) Kp.refl hr' hsc
      rw [show ([V.ref sa, .int i, .int sd, .int e].set 1 (.int ((i : Int) + 1))) = [V.ref sa, .int (i + 1 : Nat), .int sd, .int e] from rfl]
      revert a1 a2 a3
      generalize upd H r (.lst [V.ref sa, .int (i + 1 : Nat), .int sd, .int e]) = Ha
      intro a1 a2 a3
      refine rd_ixI ?_ (SqL.of a2) rfl
      walk_at "rd"
      refine rd_ixI ?_ (SqL.of a2) rfl
      walk_at "rd"
      refine rd_len_lst a3 ?_
      walk_at "rd"
      rw [List.length_map]
      refine rd_ite (fun h2 => ?_) (fun h2 => ?_)
      · walk_at "rd"
        refine rd_ixI ?_ (SqL.of a2) rfl
        walk_at "rd"
        refine rd_mul_int (.inr ⟨by decide, by decide⟩) ?_
        walk_at "rd"
        refine rd_I (by decide) ?_
        walk_at "rd"
        refine rd_setL (j := 2) a2 rfl ?_
        walk_at "rd"
        obtain ⟨b1, b2, b3⟩ := row_put (j := i + 1) (s' := (sd * 48271 + 11) % 2147483647) (e' := e) a1 a2 a3
        refine rd_ixI ?_ (SqL.of b2) rfl
        walk_at "rd"
        refine rd_I ⟨by decide, by decide⟩ ?_
        walk_at "rd"
        refine rd_I (by omega) ?_
        exact take_fin m1 _ fun n hn => k n _ hn b1 ⟨sa, sc, _, _, _, b2, b3⟩
      · walk_at "rd"
        refine rd_ixI ?_ (SqL.of a2) rfl
        walk_at "rd"
        refine rd_ixI ?_ (SqL.of a2) rfl
        walk_at "rd"
        rw [show ((i + 1 : Nat) : Int) - 1 = (i : Nat) by omega]
        have hi : i < sc.length := by omega
        refine rd_ixLn a3 (v := .int sc[i]) (by rw [List.getElem?_map, List.getElem?_eq_getElem hi]; rfl) ?_
        walk_at "rd"
        generalize sc[i] = cell
        refine rd_ixI ?_ (SqL.of a2) rfl
        walk_at "rd"
        refine rd_mul_int (.inr ⟨by decide, by decide⟩) ?_
        walk_at "rd"
        refine rd_I (by decide) ?_
        walk_at "rd"
        refine rd_setL (j := 2) a2 rfl ?_
        walk_at "rd"
        obtain ⟨b1, b2, b3⟩ := row_put (j := i + 1) (s' := (sd * 48271 + cell + 11) % 2147483647) (e' := e) a1 a2 a3
        rw [show ([V.ref sa, .int (i + 1 : Nat), .int sd, .int e].set 2 (.int ((sd * 48271 + cell + 11) % 2147483647))) = [V.ref sa, .int (i + 1 : Nat), .int ((sd * 48271 + cell + 11) % 2147483647), .int e] from rfl]
        revert b1 b2 b3
        generalize upd Ha r (.lst [V.ref sa, .int (i + 1 : Nat), .int ((sd * 48271 + cell + 11) % 2147483647), .int e]) = Hb
        intro b1 b2 b3
        refine rd_I ⟨by decide, by decide, by decide⟩ ?_
        walk_at "rd"
        refine rd_ite (fun h3 => ?_) (fun h3 => ?_)
        · walk_at "rd"
          refine rd_I ⟨by omega, by omega⟩ ?_
          walk_at "rd"
          refine rd_setL (j := 3) b2 rfl ?_
          walk_at "rd"
          refine rd_I (by omega) ?_
          obtain ⟨c1, c2, c3⟩ := row_put (j := i + 1) (s' := (sd * 48271 + cell + 11) % 2147483647) (e' := cell / (many : Nat)) b1 b2 b3
          exact take_fin m1 _ fun n hn => k n _ hn c1 ⟨sa, sc, _, _, _, c2, c3⟩
        · walk_at "rd"
          refine rd_I (by omega) ?_
          exact take_fin m1 _ fun n hn => k n _ hn b1 ⟨sa, sc, _, _, _, b2, b3⟩
end
section
variable {P : Program} {w : World} {K : PySem.W.Frag} {mg : Str → Option Value} {base : Heap} {CText CPart CKeyReader : Addr}
theorem ok_x_law_word (T : Txt K mg CText CPart CKeyReader) : GOk P w K mg base CX0 2 "_law_word" (sp_x_law_word K) := by
  refine T.d_x_law_word.ok sc_x_law_word (fun vs H Q E h => ?len) (fun f cdv A outer s H vs Q E hr h => ?_)
  case len => obtain ⟨r, most, rfl, _⟩ := h; rfl
  · obtain ⟨r, most, rfl, row, m1, m2, k⟩ := h
    refine ⟨_, (pss_cons (ps_set (i := 2) sc_x_law_word.nd rfl (Or.inl rfl) pe_str)
    (pss_cons (ps_for PassesOwn.never rfl (pi_range1 rfl T.n_range (pa_cons (pe_op (addK (K := K) rfl) pe_int (pe_g (ok_x_law_taken (K := K) T) (hr.mono (by decide)) pass0 (pa_cons (pv 0) (pa_cons (pv 1) pa_nil)))) pa_nil)) (pg_name (i := 3) sc_x_law_word.nd rfl (Or.inl rfl)) (pss_one (ps_set (i := 2) sc_x_law_word.nd rfl (Or.inl rfl) (pe_op (addK (K := K) rfl) (pv 2) (pe_ix (ixK (K := K) rfl) pe_str (pe_g (ok_x_law_taken (K := K) T) (hr.mono (by decide)) pass0 (pa_cons (pv 0) (pa_cons pe_int pa_nil))) (fun _ _ => rfl))))))
    (pss_one (ps_ret (pv 2))))), ?_⟩
    walk_at "rd"
    refine ⟨r, most, rfl, row, m1, by omega, fun n H1 hn k1 row1 => ?_⟩
    walk_at "rd"
    refine ⟨_, rfl, by omega, by omega, for_range (fun i σ H' => ∃ x v3, σ = [some (.ref r), some (.int (most : Nat)), some (.str x), v3] ∧ Kp H H' ∧ RowAt K H' r ∧ x.length = i ∧ ∀ c ∈ tl x, c = 97 ∨ c = 98 ∨ c = 99 ∨ c = 122) ⟨"", _, rfl, k1, row1, rfl, fun c hc => by cases hc⟩ ?_ ?_⟩
    · rintro i σ H' hi ⟨x, v3, rfl, k2, row2, hx, hc⟩
      walk_at "rd"
      refine ⟨r, 4, rfl, row2, by decide, by decide, fun m H2 hm k3 row3 => ?_⟩
      obtain ⟨c, e1, e2⟩ : ∃ c, (tl ("abcz" : Str))[m]? = some c ∧ (c = 97 ∨ c = 98 ∨ c = 99 ∨ c = 122) := by
        have e : tl ("abcz" : Str) = [97, 98, 99, 122] := by decide +kernel
        rw [e]
        rcases m with _ | _ | _ | _ | m
        · exact ⟨97, rfl, by simp⟩
        · exact ⟨98, rfl, by simp⟩
        · exact ⟨99, rfl, by simp⟩
        · exact ⟨122, rfl, by simp⟩
        · omega
      refine rd_ixSn (Nat.le_trans (show ("abcz" : Str).length ≤ 4 by decide +kernel) four_line) e1 ?_
      have e1' : (⟨#[c]⟩ : Str).length = 1 := rfl
      have e64 := twenty_line
      refine rd_add_str (by omega) ?_
      walk_at "rd"
      refine ⟨x ++ ⟨#[c]⟩, _, rfl, k2.trans k3, row3, by rw [str_len_app]; omega, fun d hd => ?_⟩
      rw [tl_append] at hd
      rcases List.mem_append.mp hd with hd | hd
      · exact hc d hd
      · cases (List.mem_singleton.mp (show d ∈ [c] from hd)); exact e2
    · rintro σ H' ⟨x, v3, rfl, k2, row2, hx, hc⟩
      walk_at "rd"
      exact k x H' ⟨by omega, by omega, hc⟩ k2 row2
end
section
variable {P : Program} {w : World} {K : PySem.W.Frag} {mg : Str → Option Value} {base : Heap} {CText CPart CKeyReader : Addr}
theorem ok_x_law_steps (T : Txt K mg CText CPart CKeyReader) : GOk P w K mg base CX0 3 "_law_steps" (sp_x_law_steps K) := by
  refine T.d_x_law_steps.ok sc_x_law_steps (fun vs H Q E h => ?len) (fun f cdv A outer s H vs Q E hr h => ?_)
  case len => obtain ⟨r, count, most, rfl, _⟩ := h; rfl
  · obtain ⟨r, count, most, rfl, row, hc, m1, m2, k⟩ := h
    refine ⟨_, (pss_cons (ps_par (i := 3) (j := 4) rfl sc_x_law_steps.nd rfl rfl (by decide) rfl rfl (pa_cons (pe_lst pa_nil) (pa_cons pe_int pa_nil)) rfl)
    (pss_cons (ps_for PassesOwn.never rfl (pi_range1 rfl T.n_range (pa_cons (pv 1) pa_nil)) (pg_name (i := 5) sc_x_law_steps.nd rfl (Or.inl rfl)) (pss_one (ps_if (PW.pt (pw_or (pt_cmpR (eqK (K := K) rfl hr.units) (pv 4) pe_int (nomark _)) (pw_or1 (pt_cmpR (eqK (K := K) rfl hr.units) (pe_g (ok_x_law_taken (K := K) T) (hr.mono (by decide)) pass0 (pa_cons (pv 0) (pa_cons pe_int pa_nil))) pe_int (nomark _))))) (pss_cons (ps_set (i := 6) sc_x_law_steps.nd rfl (Or.inl rfl) (pe_g (ok_x_law_word (K := K) T) (hr.mono (by decide)) pass0 (pa_cons (pv 0) (pa_cons (pe_ix (ixK (K := K) rfl) (pe_lst (pa_cons pe_int (pa_cons pe_int (pa_cons pe_int pa_nil)))) (pe_g (ok_x_law_taken (K := K) T) (hr.mono (by decide)) pass0 (pa_cons (pv 0) (pa_cons pe_int pa_nil))) (fun _ _ => rfl)) pa_nil))))
    (pss_one (ps_if (pt_cmpR op_le (pe_op (addK (K := K) rfl) (pv 4) (pe_callB (lenK (K := K) rfl) rfl T.n_len (by decide +kernel) (pa_cons (pv 6) pa_nil))) (pv 2) (nomark _)) (pss_one (ps_par (i := 3) (j := 4) rfl sc_x_law_steps.nd rfl rfl (by decide) rfl rfl (pa_cons (pe_op (addK (K := K) rfl) (pv 3) (pe_lst (pa_cons (pe_tup (pa_cons pe_str (pa_cons (pv 6) pa_nil))) pa_nil))) (pa_cons (pe_op (addK (K := K) rfl) (pv 4) (pe_callB (lenK (K := K) rfl) rfl T.n_len (by decide +kernel) (pa_cons (pv 6) pa_nil))) pa_nil)) rfl))
    pss_nil)))
    (pss_cons (ps_set (i := 7) sc_x_law_steps.nd rfl (Or.inl rfl) (pe_g (ok_x_law_taken (K := K) T) (hr.mono (by decide)) pass0 (pa_cons (pv 0) (pa_cons (pv 4) pa_nil))))
    (pss_cons (ps_set (i := 8) sc_x_law_steps.nd rfl (Or.inl rfl) (pe_op (addK (K := K) rfl) (pv 7) (pe_g (ok_x_law_taken (K := K) T) (hr.mono (by decide)) pass0 (pa_cons (pv 0) (pa_cons (pe_ix (ixK (K := K) rfl) (pe_lst (pa_cons (pe_op op_sub (pv 4) (pv 7)) (pa_cons (pe_callB (cMin2 rfl) rfl T.n_min (by decide +kernel) (pa_cons pe_int (pa_cons (pe_op op_sub (pv 4) (pv 7)) pa_nil))) pa_nil))) (pe_g (ok_x_law_taken (K := K) T) (hr.mono (by decide)) pass0 (pa_cons (pv 0) (pa_cons pe_int pa_nil))) (fun _ _ => rfl)) pa_nil)))))
    (pss_cons (ps_set (i := 9) sc_x_law_steps.nd rfl (Or.inl rfl) (pe_op (addK (K := K) rfl) pe_int (pe_g (ok_x_law_taken (K := K) T) (hr.mono (by decide)) pass0 (pa_cons (pv 0) (pa_cons (pe_ix (ixK (K := K) rfl) (pe_lst (pa_cons pe_int (pa_cons pe_int (pa_cons pe_int pa_nil)))) (pe_g (ok_x_law_taken (K := K) T) (hr.mono (by decide)) pass0 (pa_cons (pv 0) (pa_cons pe_int pa_nil))) (fun _ _ => rfl)) pa_nil)))))
    (pss_one (ps_if (pt_cmpR op_le (pe_op (addK (K := K) rfl) (pv 4) (pe_op oMul (pe_op (addK (K := K) rfl) (pe_op op_sub (pv 8) (pv 7)) pe_int) (pv 9))) (pv 2) (nomark _)) (pss_one (ps_par (i := 3) (j := 4) rfl sc_x_law_steps.nd rfl rfl (by decide) rfl rfl (pa_cons (pe_op (addK (K := K) rfl) (pv 3) (pe_lst (pa_cons (pe_tup (pa_cons pe_str (pa_cons (pv 7) (pa_cons (pv 8) (pa_cons (pv 9) pa_nil))))) pa_nil))) (pa_cons (pe_op (addK (K := K) rfl) (pv 4) (pe_op oMul (pe_op (addK (K := K) rfl) (pe_op op_sub (pv 8) (pv 7)) pe_int) (pv 9))) pa_nil)) rfl))
    pss_nil))))))))
    (pss_one (ps_ret (pe_callTy (tupK (K := K) rfl) rfl T.n_tuple (by decide +kernel) (pa_cons (pv 3) pa_nil)))))), ?_⟩
    walk_at "rd"
    refine ⟨Nat.zero_le _, fun l hl => ?_⟩
    walk_at "rd"
    have S1 : Same H (upd H l (.lst [])) := Same.new (Same.refl _) hl
    refine ⟨_, rfl, by omega, by omega, for_range (LsPv K H r count most) ⟨l, [], [], _, _, _, _, _, rfl, Kp.same S1, row.mono S1, upd_same, StepsAt.nil, trivial, Nat.le_refl _, Nat.zero_le _, fun z _ => absurd z (by decide), fun c hc => by cases hc⟩ ?_ ?_⟩
    · rintro i σ H' hi ⟨l, ms, ss, v5, v6, v7, v8, v9, rfl, k1, row1, hl1, hst, ok, few, hz, h1, hL⟩
      have line := line30
      have hi' : i < count := by omega
      have hms : ms.length = ss.length := hst.1
      refine rd_name ?_
      refine rd_ifOr (fun Hc => Kp H' Hc ∧ RowAt K Hc r) (fun Hc ⟨kc, rowc⟩ => ?_) (fun join => ?_)
      · have hlc := kc _ _ (nr_refs hst.refs) hl1
        have hstc := hst.kp kc
        walk_at "rd"
        refine ⟨three_line, fun p hp => ?_⟩
        walk_at "rd"
        have S1 : Same Hc (upd Hc p (.lst [.int 2, .int 5, .int 20])) := Same.new (Same.refl _) hp
        refine ⟨r, 3, rfl, rowc.mono S1, by decide, by decide, fun n H2 hn k2 row2 => ?_⟩
        obtain ⟨m, em, hm⟩ := pickL (l := [2, 5, 20]) (n := n) hn
        have hm' : 1 ≤ m ∧ m ≤ 20 := by
          simp only [List.mem_cons, List.not_mem_nil, or_false] at hm
          omega
        refine rd_ixLn (SqL.of (k2 _ _ (nr_nats (l := [2, 5, 20])) upd_same)) em ?_
        walk_at "rd"
        refine ⟨r, m, rfl, row2, hm'.1, hm'.2, fun x H3 hx k3 row3 => ?_⟩
        have kt : Kp Hc H3 := ((Kp.same S1).trans k2).trans k3
        have hl3 := kt _ _ (nr_refs hst.refs) hlc
        have hst3 := hstc.kp kt
        have wz : x.length ≤ sizeLine := str_small (Nat.le_trans hx.2.1 hm'.2)
        walk_at "rd"
        refine rd_len_str wz ?_
        walk_at "rd"
        refine rd_ite (fun h2 => ?_) (fun h2 => ?_)
        · walk_at "rd"
          refine ⟨two_line, fun q hq => ?_⟩
          walk_at "rd"
          refine ⟨one_line, fun q2 hq2 => ?_⟩
          have S4 : Same H3 (upd (upd H3 q (.tup [.str "write", .str x])) q2 (.lst [.ref q])) := Same.new (Same.new (Same.refl _) hq) hq2
          refine rd_add_lst (S4 _ _ hl3) upd_same (by simp only [List.length_cons, List.length_nil]; omega) (fun q3 hq3 => ?_)
          walk_at "rd"
          refine rd_len_str wz ?_
          walk_at "rd"
          have S5 := Same.new (o := .lst (ms ++ [.ref q])) S4 hq3
          have hs1 : StepAt K (upd H3 q (.tup [.str "write", .str x])) (.ref q) (.wr x) := ⟨q, rfl, SqT.of upd_same⟩
          have hs2 := hs1.mono (Same.new (o := .lst (ms ++ [.ref q])) (Same.new (o := .lst [.ref q]) (Same.refl _) hq2) hq3)
          rw [show ((sz ss : Nat) : Int) + (x.length : Nat) = ((sz (ss ++ [.wr x]) : Nat) : Int) by rw [sz_snoc]; rfl]
          exact ⟨q3, ms ++ [.ref q], ss ++ [.wr x], _, _, _, _, _, rfl, ((k1.trans kc).trans kt).trans (Kp.same S5), row3.mono S5, upd_same, (hst3.mono S5).snoc hs2, ok_snoc ok (hx.step hm'.2) (by simp only [len1]; omega), by rw [List.length_append]; simp; omega, by rw [sz_snoc]; simp only [len1]; omega, fun _ _ => by rw [sz_snoc]; have := hx.1; simp only [len1]; omega, hL.wr hx⟩
        · walk_at "rd"
          exact ⟨l, ms, ss, _, _, _, _, _, rfl, (k1.trans kc).trans kt, row3, hl3, hst3, ok, by omega, hz, fun _ m20 => by
            rcases Nat.eq_zero_or_pos i with e | e
            · have h3 := hx.2.1
              have : ss.length = 0 := by omega
              have : sz ss = 0 := by rw [List.length_eq_zero_iff.mp this]; rfl
              omega
            · exact h1 e m20, hL⟩
      · walk_at "rd"
        refine rd_ite (fun h0 => join _ ⟨Kp.refl, row1⟩) (fun h0 => ?_)
        walk_at "rd"
        refine ⟨r, 3, rfl, row1, by decide, by decide, fun n H2 hn k2 row2 => ?_⟩
        walk_at "rd"
        refine rd_ite (fun h2 => by have := join _ ⟨k2, row2⟩; rwa [if_pos rfl] at this) (fun h2 => ?_)
        have hz0 : 1 ≤ sz ss := by omega
        clear join
        walk_at "rd"
        refine ⟨r, sz ss, rfl, row2, hz0, by omega, fun fi H3 hfi k3 row3 => ?_⟩
        walk_at "rd"
        refine ⟨two_line, fun p hp => ?_⟩
        walk_at "rd"
        rw [show ((sz ss : Nat) : Int) - (fi : Nat) = ((sz ss - fi : Nat) : Int) by omega]
        rw [show (if ((sz ss - fi : Nat) : Int) < 4 then ((sz ss - fi : Nat) : Int) else 4) = ((min 4 (sz ss - fi) : Nat) : Int) by split <;> omega]
        have S1 : Same H3 (upd H3 p (.lst ([sz ss - fi, min 4 (sz ss - fi)].map fun m => V.int (m : Nat)))) := Same.new (Same.refl _) hp
        refine ⟨r, 2, rfl, row3.mono S1, by decide, by decide, fun n2 H4 hn2 k4 row4 => ?_⟩
        obtain ⟨m, em, hm⟩ := pickL (l := [sz ss - fi, min 4 (sz ss - fi)]) (n := n2) hn2
        have hm' : 1 ≤ m ∧ m ≤ sz ss - fi := by
          simp only [List.mem_cons, List.not_mem_nil, or_false] at hm
          omega
        clear hm
        refine rd_ixLn (SqL.of (k4 _ _ nr_nats upd_same)) em ?_
        walk_at "rd"
        refine ⟨r, m, rfl, row4, hm'.1, by omega, fun la H5 hla k5 row5 => ?_⟩
        walk_at "rd"
        refine ⟨three_line, fun p2 hp2 => ?_⟩
        walk_at "rd"
        have S2 : Same H5 (upd H5 p2 (.lst ([1, 3, 9].map fun m => V.int (m : Nat)))) := Same.new (Same.refl _) hp2
        refine ⟨r, 3, rfl, row5.mono S2, by decide, by decide, fun n3 H6 hn3 k6 row6 => ?_⟩
        obtain ⟨m3, em3, hm3⟩ := pickL (l := [1, 3, 9]) (n := n3) hn3
        have hm3' : 1 ≤ m3 ∧ m3 ≤ 9 := by
          simp only [List.mem_cons, List.not_mem_nil, or_false] at hm3
          omega
        clear hm3
        refine rd_ixLn (SqL.of (k6 _ _ nr_nats upd_same)) em3 ?_
        walk_at "rd"
        refine ⟨r, m3, rfl, row6, hm3'.1, by omega, fun ti H7 hti k7 row7 => ?_⟩
        have kt : Kp H' H7 := ((((((k2.trans k3).trans (Kp.same S1)).trans k4).trans k5).trans (Kp.same S2)).trans k6).trans k7
        have hl7 := kt _ _ (nr_refs hst.refs) hl1
        have hst7 := hst.kp kt
        walk_at "rd"
        rw [show ((fi : Nat) : Int) + (la : Nat) = ((fi + la : Nat) : Int) by omega, show (1 : Int) + (ti : Nat) = ((1 + ti : Nat) : Int) by omega]
        have el : ((fi + la : Nat) : Int) - (fi : Nat) + 1 = ((fi + la - fi + 1 : Nat) : Int) := by omega
        rw [el]
        refine rd_mul_int (.inr ⟨by omega, by omega⟩) ?_
        rw [← Int.natCast_mul]
        walk_at "rd"
        refine rd_ite (fun h3 => ?_) (fun h3 => ?_)
        · walk_at "rd"
          refine ⟨four_line, fun q hq => ?_⟩
          walk_at "rd"
          refine ⟨one_line, fun q2 hq2 => ?_⟩
          have S4 : Same H7 (upd (upd H7 q (.tup [.str "paste", .int (fi : Nat), .int (fi + la : Nat), .int (1 + ti : Nat)])) q2 (.lst [.ref q])) := Same.new (Same.new (Same.refl _) hq) hq2
          refine rd_add_lst (S4 _ _ hl7) upd_same (by simp only [List.length_cons, List.length_nil]; omega) (fun q3 hq3 => ?_)
          walk_at "rd"
          rw [el]
          refine rd_mul_int (.inr ⟨by omega, by omega⟩) ?_
          rw [← Int.natCast_mul]
          walk_at "rd"
          have S5 := Same.new (o := .lst (ms ++ [.ref q])) S4 hq3
          have hs1 : StepAt K (upd H7 q (.tup [.str "paste", .int (fi : Nat), .int (fi + la : Nat), .int (1 + ti : Nat)])) (.ref q) (.pa fi (fi + la) (1 + ti)) := ⟨q, rfl, SqT.of upd_same⟩
          have hs2 := hs1.mono (Same.new (o := .lst (ms ++ [.ref q])) (Same.new (o := .lst [.ref q]) (Same.refl _) hq2) hq3)
          have ez : len1 (.pa fi (fi + la) (1 + ti)) = (fi + la - fi + 1) * (1 + ti) := rfl
          have h3' : sz ss + (fi + la - fi + 1) * (1 + ti) ≤ most := by omega
          rw [show ((sz ss : Nat) : Int) + (((fi + la - fi + 1) * (1 + ti) : Nat) : Int) = ((sz (ss ++ [.pa fi (fi + la) (1 + ti)]) : Nat) : Int) by rw [sz_snoc, ez]; omega]
          exact ⟨q3, ms ++ [.ref q], ss ++ [.pa fi (fi + la) (1 + ti)], _, _, _, _, _, rfl, (k1.trans kt).trans (Kp.same S5), row7.mono S5, upd_same, (hst7.mono S5).snoc hs2, ok_snoc ok (show okStep (sz ss) (.pa fi (fi + la) (1 + ti)) from ⟨by omega, by omega, by omega, by omega⟩) (by rw [ez]; omega), by rw [List.length_append]; simp; omega, by rw [sz_snoc, ez]; exact h3', fun _ _ => by rw [sz_snoc]; omega, hL.pa⟩
        · walk_at "rd"
          exact ⟨l, ms, ss, _, _, _, _, _, rfl, k1.trans kt, row7, hl7, hst7, ok, by omega, hz, fun _ _ => hz0, hL⟩
    · rintro σ H' ⟨l, ms, ss, v5, v6, v7, v8, v9, rfl, k1, row1, hl1, hst, ok, few, hz, h1, hL⟩
      walk_at "rd"
      refine rd_tuple_lst (SqL.of hl1) fun p hp => ?_
      have S2 : Same H' (upd H' p (.tup ms)) := Same.new (Same.refl _) hp
      exact k p ms ss _ (k1.trans (Kp.same S2)) (row1.mono S2) (SqT.of upd_same) (hst.mono S2) ok (by omega) hz (fun z m20 => h1 (by omega) m20) hL
end
local macro_rules | `(tactic| walk_at "zl") => `(tactic| (rw [sizeLine_eq]; first | decide | (simp only [List.length_cons, List.length_nil]; omega) | omega))
local macro_rules | `(tactic| walk_at "sm") => `(tactic| first | exact Same.refl _ | assumption | ((with_reducible refine' Same.trans ?sx ?sy); (case sy => assumption); (case sx => walk_at "sm")))
local macro_rules | `(tactic| walk_at "kp") => `(tactic| first | exact Kp.refl | assumption | ((with_reducible refine' Kp.trans ?kx ?ky); (case ky => assumption); (case kx => walk_at "kp")) | ((with_reducible refine' Kp.trans ?kx (Kp.same ?ky)); (case ky => assumption); (case kx => walk_at "kp")))
local macro_rules | `(tactic| walk_at "tx") => `(tactic| first | assumption | ((with_reducible refine' TX.kp ?tx1 ?tx2); (case tx1 => assumption); (case tx2 => walk_at "kp")))
local macro_rules | `(tactic| walk_at "ts") => `(tactic| first | assumption | ((with_reducible refine' TS'.kp ?tx1 ?tx2); (case tx1 => assumption); (case tx2 => walk_at "kp")) | ((with_reducible refine' ts_nil ?tx1); (case tx1 => assumption)))
local macro_rules | `(tactic| walk_at "sx") => `(tactic| first | assumption | ((with_reducible refine' SX.kp ?tx1 ?tx2); (case tx1 => assumption); (case tx2 => walk_at "kp")) | ((with_reducible refine' TS'.sx ?tx1); (case tx1 => walk_at "ts")))
local macro_rules | `(tactic| walk_at "row") => `(tactic| first | assumption | ((with_reducible refine' RowAt.mono ?tx1 ?tx2); (case tx1 => assumption); (case tx2 => walk_at "sm")))
local macro_rules | `(tactic| walk_at "ls") => `(tactic| first | assumption | ((with_reducible refine' kp_natV ?tx1 ?tx2); (case tx1 => assumption); (case tx2 => walk_at "kp")) | ((with_reducible refine' kp_sgV ?tx1 ?tx2); (case tx1 => assumption); (case tx2 => walk_at "kp")) | ((refine' Same.lk ?tx1 ?tx2); (case tx1 => assumption); (case tx2 => walk_at "sm")))
local macro_rules | `(tactic| walk_at "om") => `(tactic| first | omega | with_reducible assumption)
local macro_rules | `(tactic| walk_at "rd1") => `(tactic| first
  | with_reducible refine rd_cons ?_ | ((with_reducible refine' rd_var ?k1 ?_); (case k1 => rfl)) | with_reducible refine rd_C ?_ | with_reducible refine rd_nil ?_ | with_reducible refine rd_op ?_ | with_reducible refine rd_g ?_
  | ((with_reducible refine' rd_nameE ?k1 ?_); (case k1 => (dsimp only [List.set_cons_zero, List.set_cons_succ]; exact rfl))) | with_reducible refine rd_asg ?_ | with_reducible refine rd_seq ?_ | with_reducible refine rd_andrfl ?_ | with_reducible refine rd_prop ?_ | with_reducible refine rd_cb ?_ | with_reducible refine rd_test ?_ | with_reducible refine rd_bl ?_ | with_reducible refine rd_ifS ?_ | with_reducible refine rd_next ?_
  | with_reducible refine rd_tupN ?_ | with_reducible refine rd_lstN ?_ | with_reducible refine rd_add_int ?_ | with_reducible refine rd_sub ?_ | with_reducible refine rd_tB ?_ | with_reducible refine rd_not ?_ | with_reducible refine rd_and ?_ | with_reducible refine rd_or ?_ | with_reducible refine rd_ret ?_ | with_reducible refine rd_cmeth ?_ | with_reducible refine rd_o ?_ | with_reducible refine rd_I0 ?_
  | ((with_reducible show @Eq (Option HO) _ Option.none → _); intro) | with_reducible refine rd_m1 ?_ | with_reducible refine rd_exStr ?_ | ((with_reducible refine' rd_iNat ?k1 ?_); (case k1 => walk_at "ls"))
  | ((with_reducible refine' rd_taken ?k1 ?k2 ?k3 ?_); (case k1 => walk_at "row"); (case k2 => walk_at "om"); (case k3 => walk_at "om"))
  | ((with_reducible refine' rd_word ?k1 ?k2 ?k3 ?_); (case k1 => walk_at "row"); (case k2 => walk_at "om"); (case k3 => walk_at "om"))
  | ((with_reducible refine' rd_stepsL ?k1 ?k2 ?k3 ?k4 ?k5 ?_); (case k1 => walk_at "row"); (case k2 => walk_at "om"); (case k3 => walk_at "om"); (case k4 => walk_at "om"); (case k5 => walk_at "om"))
  | ((with_reducible refine' rd_listS ?k1 ?_); (case k1 => walk_at "ts"))
  | ((with_reducible refine' rd_ofSteps ?k1 ?k2 ?k3 ?_); (case k1 => walk_at "sx"); (case k2 => walk_at "om"); (case k3 => walk_at "om"))
  | ((with_reducible refine' rd_pSize ?k1 ?_); (case k1 => walk_at "tx"))
  | ((with_reducible refine' rd_pTyped ?k1 ?_); (case k1 => walk_at "tx"))
  | ((with_reducible refine' rd_pSteps ?k1 ?_); (case k1 => walk_at "tx"))
  | ((with_reducible refine' rd_oCall ?k1 ?k2 ?k3 ?_); (case k1 => walk_at "tx"); (case k2 => walk_at "om"); (case k3 => walk_at "om"))
  | ((with_reducible refine' rd_oItem ?k1 ?k2 ?k3 ?_); (case k1 => walk_at "tx"); (case k2 => walk_at "om"); (case k3 => walk_at "om"))
  | ((with_reducible refine' rd_opAdd ?k1 ?k2 ?k3 ?k4 ?_); (case k1 => walk_at "tx"); (case k2 => walk_at "tx"); (case k3 => walk_at "om"); (case k4 => walk_at "om"))
  | ((with_reducible refine' rd_opMul ?k1 ?k2 ?k3 ?k4 ?k5 ?_); (case k1 => walk_at "tx"); (case k2 => walk_at "om"); (case k3 => walk_at "om"); (case k4 => walk_at "om"); (case k5 => walk_at "om"))
  | ((with_reducible refine' rd_opEq ?k1 ?k2 ?_); (case k1 => walk_at "tx"); (case k2 => walk_at "tx"))
  | ((with_reducible refine' rd_opEqT ?k1 ?k2 ?_); (case k1 => walk_at "tx"); (case k2 => walk_at "ts"))
  | ((with_reducible refine' rd_opNe ?k1 ?k2 ?_); (case k1 => walk_at "tx"); (case k2 => walk_at "tx"))
  | ((with_reducible refine' rd_mTx ?k1 ?k2 ?_); (case k1 => walk_at "tx"); (case k2 => decide +kernel))
  | ((with_reducible refine' rd_mRetyped ?k1 ?k2 ?k3 ?_); (case k1 => walk_at "tx"); (case k2 => walk_at "om"); (case k3 => walk_at "om"))
  | ((with_reducible refine' rd_eqTT ?k1 ?k2 ?k3 ?k4 ?_); (case k1 => walk_at "ts"); (case k2 => walk_at "ts"); (case k3 => first | assumption | trivial); (case k4 => first | assumption | trivial))
  | ((with_reducible refine' rd_neTT ?k1 ?k2 ?k3 ?k4 ?_); (case k1 => walk_at "ts"); (case k2 => walk_at "ts"); (case k3 => first | assumption | trivial); (case k4 => first | assumption | trivial))
  | ((with_reducible refine' rd_neNN ?k1 ?k2 ?_); (case k1 => walk_at "ls"); (case k2 => walk_at "ls"))
  | ((with_reducible refine' rd_eqNN ?k1 ?k2 ?_); (case k1 => walk_at "ls"); (case k2 => walk_at "ls"))
  | ((with_reducible refine' rd_lenN ?k1 ?_); (case k1 => walk_at "ls"))
  | ((with_reducible refine' rd_lenS ?k1 ?_); (case k1 => walk_at "om"))
  | ((with_reducible refine' rd_ixN ?k1 ?k2 ?k3 ?_); (case k1 => walk_at "ls"); (case k2 => walk_at "om"); (case k3 => walk_at "om"))
  | ((with_reducible refine' rd_ixC ?k1 ?k2 ?k3 ?_); (case k1 => walk_at "om"); (case k2 => walk_at "om"); (case k3 => walk_at "om"))
  | ((with_reducible refine' rd_gtup ?k1 ?k2 ?_); (case k1 => exact SqT.of (by assumption)); (case k2 => rfl))
  | ((with_reducible refine' rd_new ?k1 ?_); (case k1 => walk_at "zl"))
  | with_reducible refine rd_ref1 ?_
  | with_reducible refine rd_nF rfl ?_ | with_reducible refine rd_dT rfl ?_ | with_reducible refine rd_cT rfl ?_ | with_reducible refine rd_cF rfl ?_
  | ((with_reducible refine' rd_dT ?k1 ?_); (case k1 => omega)) | ((with_reducible refine' rd_dF ?k1 ?_); (case k1 => omega)) | ((with_reducible refine' rd_nT ?k1 ?_); (case k1 => omega)) | ((with_reducible refine' rd_nF ?k1 ?_); (case k1 => omega)))
local macro_rules | `(tactic| walk_at "rdS") => `(tactic| repeat ((fail_if_success with_reducible show tIfS _ _ _ _ _ _); walk_at "rd1"))
local macro_rules | `(tactic| walk_at "rd1") => `(tactic| first
  | with_reducible refine rd_iRng2 ?_ | with_reducible refine rd_lc ?_
  | ((with_reducible refine' rd_isIntT ?k1 ?_); (case k1 => omega))
  | ((with_reducible refine' rd_checkRange ?k1 ?k2 ?k3 ?k4 ?_); (case k1 => walk_at "tx"); (case k2 => omega); (case k3 => omega); (case k4 => omega)))
section
variable {P : Program} {w : World} {K : PySem.W.Frag} {mg : Str → Option Value} {base : Heap} {CText CPart CKeyReader : Addr}
theorem ok_check_range (T : Txt K mg CText CPart CKeyReader) : GOk P w K mg base CX0 3 "check_range" (sp_check_range K CText CPart) := by
  refine T.d_check_range.ok sc_check_range (fun vs H Q E h => ?len) (fun f cdv A outer s H vs Q E hr h => ?_)
  case len => obtain ⟨a, ss, f, e, rfl, _⟩ := h; rfl
  · obtain ⟨a, ss, i, e, rfl, TT, h1, h2, k⟩ := h
    refine ⟨_, (pss_one (ps_if (PW.pt (pw_or (pt_not (pt_val (pe_g (ok_is_integer (K := K) T) (hr.mono (by decide)) pass0 (pa_cons (pv 1) (pa_cons pe_int (pa_cons (pe_p (pv 0) T.cText (ok_Text_size (K := K) T) (hr.mono (by decide)) pass0) pa_nil)))))) (pw_or1 (pt_not (pt_val (pe_g (ok_is_integer (K := K) T) (hr.mono (by decide)) pass0 (pa_cons (pv 2) (pa_cons (pe_op op_sub (pv 1) pe_int) (pa_cons (pe_op op_sub (pe_p (pv 0) T.cText (ok_Text_size (K := K) T) (hr.mono (by decide)) pass0) pe_int) pa_nil))))))))) (pss_one ps_never)
    pss_nil)), ?_⟩
    refine rd_startE (show start N_check_range [.ref a, .int (i : Nat), .int ((e : Int) - 1)] = [some (.ref a), some (.int (i : Nat)), some (.int ((e : Int) - 1))] from rfl) ?_
    walk_at "rd"
    exact k
end
section
variable {P : Program} {w : World} {K : PySem.W.Frag} {mg : Str → Option Value} {base : Heap} {CText CPart CKeyReader : Addr}
theorem ok_letters_between (T : Txt K mg CText CPart CKeyReader) : GOk P w K mg base CX0 5 "letters_between" (sp_letters_between K CText CPart) := by
  refine T.d_letters_between.ok sc_letters_between (fun vs H Q E h => ?len) (fun f cdv A outer s H vs Q E hr h => ?_)
  case len => obtain ⟨a, ss, f, e, rfl, _⟩ := h; rfl
  · obtain ⟨a, ss, i, e, rfl, TT, h1, h2, h3, k⟩ := h
    obtain ⟨t_MAX_LISTED, h_MAX_LISTED⟩ := T.k_MAX_LISTED; refine ⟨_, (pss_cons (ps_expr (pe_g (ok_check_range (K := K) T) (hr.mono (by decide)) pass0 (pa_cons (pv 0) (pa_cons (pv 1) (pa_cons (pv 2) pa_nil)))))
    (pss_cons (ps_if (pt_cmpR op_ge (pe_op op_sub (pv 2) (pv 1)) (pe_glob (v := .int 1000) rfl h_MAX_LISTED ⟨_, rfl⟩) (nomark _)) (pss_one ps_never)
    pss_nil)
    (pss_one (ps_ret (pe_joinK (K := K) rfl pe_str (pe_lc (own := [("place", 3)]) rfl sc_letters_between.nd (pi_range2 rfl T.n_range (pa_cons (pv 1) (pa_cons (pe_op (addK (K := K) rfl) (pv 2) pe_int) pa_nil))) (blkOk_by (own := [("place", 3)]) (N := N_letters_between) (sc := (defScope s_letters_between)) (by first | decide +kernel | rfl)) (fun _ _ _ _ _ => (pg_name (i := 3) sc_letters_between.nd rfl (Or.inl rfl))) (fun _ _ _ _ _ => pts_nil) (fun _ _ _ _ _ => (pe_ixO (ok_Text_getitem (K := K) T) (hr.mono (by decide)) pass0 (pv 0) (pv 3))))))))), ?_⟩
    refine rd_startE (show start N_letters_between [.ref a, .int (i : Nat), .int ((e : Int) - 1)] = [some (.ref a), some (.int (i : Nat)), some (.int ((e : Int) - 1)), none] from rfl) ?_
    have ok := TT.ok
    have hz18 := sz_le ok
    walk_at "rd"
    rw [show ((e : Int) - 1 + 1) = (e : Nat) by omega]
    refine ⟨_, _, rfl, ⟨by omega, by omega, by omega, by omega⟩, fun D hD => lc_fun (n := e - i) (it := fun j => .int ((i : Nat) + (j : Nat))) (by rw [show ((e : Int) - (i : Nat)).toNat = e - i by omega]; exact plain_rng) hD (by rw [sizeLine_eq]; omega) (fun _ => rfl) (fun j => .str ⟨#[lat ss (kat ss (i + j))]⟩) (fun j H1 Q1 hj S1 q => ?_) fun H1 S1 eD => ?_⟩
    · have T1 := TT.kp (Kp.same S1)
      walk_at "rd"
      rw [show ((i : Int) + (j : Nat)).toNat = i + j by omega]
      exact q _ (Same.refl _)
    · have eD' : H1 D = some (.lst (sgV (((ls ss).take e).drop i))) := by rw [eD, ls_cut ok h1 h2]; unfold sgV; rw [List.map_map]; rfl
      refine rd_joinS eD' ?_ (k _ S1)
      rw [List.length_drop, List.length_take]; omega
end
local macro_rules | `(tactic| walk_at "rd1_Fa") => `(tactic| first
  | with_reducible refine rd_seq ?_ | with_reducible refine rd_asg ?_ | with_reducible refine rd_name ?_ | ((with_reducible refine' rd_var ?k1 ?_); (case k1 => rfl)) | with_reducible refine rd_C ?_ | with_reducible refine rd_op ?_ | with_reducible refine rd_cons ?_ | with_reducible refine rd_nil ?_
  | with_reducible refine rd_test ?_ | with_reducible refine rd_tB ?_ | with_reducible refine rd_bl ?_ | with_reducible refine rd_ifS ?_ | with_reducible refine rd_and ?_ | with_reducible refine rd_or ?_ | with_reducible refine rd_not ?_ | with_reducible refine rd_andV ?_ | with_reducible refine rd_orV ?_ | with_reducible refine rd_notV ?_ | with_reducible refine rd_chain ?_
  | with_reducible refine rd_if ?_ | with_reducible refine rd_g ?_ | with_reducible refine rd_m ?_ | with_reducible refine rd_star ?_ | with_reducible refine rd_tup ?_ | with_reducible refine rd_lst ?_ | with_reducible refine rd_fld ?_ | with_reducible refine rd_cb ?_ | with_reducible refine rd_un ?_ | with_reducible refine rd_makeR ?_ | with_reducible refine rd_makeS ?_
  | with_reducible refine rd_bm ?_ | with_reducible refine rd_bm0 ?_ | with_reducible refine rd_next ?_ | with_reducible refine rd_break ?_ | with_reducible refine rd_cont ?_ | with_reducible refine rd_ret ?_ | with_reducible refine rd_retN ?_ | with_reducible refine rd_drop ?_ | with_reducible refine rd_gcons ?_ | with_reducible refine rd_gnil ?_ | with_reducible refine rd_gsub ?_
  | ((with_reducible refine' rd_aug ?k1 ?_); (case k1 => rfl)) | with_reducible refine rd_ipI ?_ | with_reducible refine rd_sfld ?_ | with_reducible refine rd_for ?_ | with_reducible refine rd_iStr ?_ | with_reducible refine rd_iList ?_ | with_reducible refine rd_iTup ?_ | with_reducible refine rd_iRng1 ?_ | with_reducible refine rd_iRng2 ?_ | with_reducible refine rd_iEnumT ?_ | with_reducible refine rd_match ?_ | with_reducible refine rd_par ?_ | with_reducible refine rd_two ?_
  | with_reducible refine rd_sl ?_ | with_reducible refine rd_noPart ?_ | with_reducible refine rd_part ?_ | with_reducible refine rd_pint ?_ | with_reducible refine rd_listRg ?_ | with_reducible refine rd_rg1 ?_ | with_reducible refine rd_rg2 ?_ | with_reducible refine rd_ixO ?_ | with_reducible refine rd_U ?_ | with_reducible refine rd_int_int ?_ | with_reducible refine rd_int_bl ?_ | with_reducible refine rd_min2 ?_ | with_reducible refine rd_max2 ?_ | with_reducible refine rd_in_sign ?_ | with_reducible refine rd_isN ?_ | with_reducible refine rd_notN ?_
  | with_reducible refine rd_lc ?_ | with_reducible refine rd_yes ?_ | with_reducible refine rd_prop ?_ | with_reducible refine rd_cmeth ?_ | with_reducible refine rd_o ?_ | with_reducible refine rd_add_int ?_ | with_reducible refine rd_sub ?_ | with_reducible refine rd_eq_int ?_ | with_reducible refine rd_eq_str ?_ | with_reducible refine rd_eq_bl ?_ | with_reducible refine rd_ne_int ?_ | with_reducible refine rd_ne_str ?_ | with_reducible refine rd_ne_bl ?_ | with_reducible refine rd_I0 ?_
  | with_reducible refine rd_isi_int_int ?_ | with_reducible refine rd_isi_int_bool ?_ | with_reducible refine rd_isi_int_str ?_ | with_reducible refine rd_isi_int_list ?_ | with_reducible refine rd_isi_int_tuple ?_ | with_reducible refine rd_isi_bl_int ?_ | with_reducible refine rd_isi_bl_bool ?_ | with_reducible refine rd_isi_bl_str ?_ | with_reducible refine rd_isi_bl_list ?_ | with_reducible refine rd_isi_bl_tuple ?_ | with_reducible refine rd_isi_str_int ?_ | with_reducible refine rd_isi_str_bool ?_ | with_reducible refine rd_isi_str_str ?_ | with_reducible refine rd_isi_str_list ?_ | with_reducible refine rd_isi_str_tuple ?_ | with_reducible refine rd_isi_non_int ?_ | with_reducible refine rd_isi_non_bool ?_ | with_reducible refine rd_isi_non_str ?_ | with_reducible refine rd_isi_non_list ?_ | with_reducible refine rd_isi_non_tuple ?_)
local macro_rules | `(tactic| walk_at "rd_Fa") => `(tactic| repeat walk_at "rd1_Fa")
local macro_rules | `(tactic| walk_at "same_Fa") => `(tactic| first | assumption | exact Same.refl _ | (refine Same.new ?_ (by assumption); walk_at "same_Fa") | (refine Same.mut ?_ (by assumption); walk_at "same_Fa") | (refine Same.trans ?_ (by assumption); walk_at "same_Fa"))
local macro_rules | `(tactic| walk_at "zl_Fa") => `(tactic| (rw [sizeLine_eq]; first | decide | (simp only [List.length_cons, List.length_nil]; omega) | omega))
local macro_rules | `(tactic| walk_at "sm_Fa") => `(tactic| first | exact Same.refl _ | assumption | ((with_reducible refine' Same.trans ?sx ?sy); (case sy => assumption); (case sx => walk_at "sm_Fa")))
local macro_rules | `(tactic| walk_at "kp_Fa") => `(tactic| first | exact Kp.refl | assumption | ((with_reducible refine' Kp.trans ?kx ?ky); (case ky => assumption); (case kx => walk_at "kp_Fa")) | ((with_reducible refine' Kp.trans ?kx (Kp.same ?ky)); (case ky => assumption); (case kx => walk_at "kp_Fa")))
local macro_rules | `(tactic| walk_at "tx_Fa") => `(tactic| first | assumption | ((with_reducible refine' TX.kp ?tx1 ?tx2); (case tx1 => assumption); (case tx2 => walk_at "kp_Fa")))
local macro_rules | `(tactic| walk_at "ts_Fa") => `(tactic| first | assumption | ((with_reducible refine' TS'.kp ?tx1 ?tx2); (case tx1 => assumption); (case tx2 => walk_at "kp_Fa")) | ((with_reducible refine' ts_nil ?tx1); (case tx1 => assumption)))
local macro_rules | `(tactic| walk_at "sx_Fa") => `(tactic| first | assumption | ((with_reducible refine' SX.kp ?tx1 ?tx2); (case tx1 => assumption); (case tx2 => walk_at "kp_Fa")) | ((with_reducible refine' TS'.sx ?tx1); (case tx1 => walk_at "ts_Fa")))
local macro_rules | `(tactic| walk_at "row_Fa") => `(tactic| first | assumption | ((with_reducible refine' RowAt.mono ?tx1 ?tx2); (case tx1 => assumption); (case tx2 => walk_at "sm_Fa")))
local macro_rules | `(tactic| walk_at "ls_Fa") => `(tactic| first | assumption | ((with_reducible refine' kp_natV ?tx1 ?tx2); (case tx1 => assumption); (case tx2 => walk_at "kp_Fa")) | ((with_reducible refine' kp_sgV ?tx1 ?tx2); (case tx1 => assumption); (case tx2 => walk_at "kp_Fa")) | ((refine' Same.lk ?tx1 ?tx2); (case tx1 => assumption); (case tx2 => walk_at "sm_Fa")))
local macro_rules | `(tactic| walk_at "om_Fa") => `(tactic| first | omega | with_reducible assumption)
local macro_rules | `(tactic| walk_at "rd1_Fa") => `(tactic| first
  | with_reducible refine rd_cons ?_ | ((with_reducible refine' rd_var ?k1 ?_); (case k1 => rfl)) | with_reducible refine rd_C ?_ | with_reducible refine rd_nil ?_ | with_reducible refine rd_op ?_ | with_reducible refine rd_g ?_
  | ((with_reducible refine' rd_nameE ?k1 ?_); (case k1 => (dsimp only [List.set_cons_zero, List.set_cons_succ]; exact rfl))) | with_reducible refine rd_asg ?_ | with_reducible refine rd_seq ?_ | with_reducible refine rd_andrfl ?_ | with_reducible refine rd_prop ?_ | with_reducible refine rd_cb ?_ | with_reducible refine rd_test ?_ | with_reducible refine rd_bl ?_ | with_reducible refine rd_ifS ?_ | with_reducible refine rd_next ?_
  | with_reducible refine rd_tupN ?_ | with_reducible refine rd_lstN ?_ | with_reducible refine rd_add_int ?_ | with_reducible refine rd_sub ?_ | with_reducible refine rd_tB ?_ | with_reducible refine rd_not ?_ | with_reducible refine rd_and ?_ | with_reducible refine rd_or ?_ | with_reducible refine rd_ret ?_ | with_reducible refine rd_cmeth ?_ | with_reducible refine rd_o ?_ | with_reducible refine rd_I0 ?_
  | ((with_reducible show @Eq (Option HO) _ Option.none → _); intro) | with_reducible refine rd_m1 ?_ | with_reducible refine rd_exStr ?_ | ((with_reducible refine' rd_iNat ?k1 ?_); (case k1 => walk_at "ls_Fa"))
  | ((with_reducible refine' rd_taken ?k1 ?k2 ?k3 ?_); (case k1 => walk_at "row_Fa"); (case k2 => walk_at "om_Fa"); (case k3 => walk_at "om_Fa"))
  | ((with_reducible refine' rd_word ?k1 ?k2 ?k3 ?_); (case k1 => walk_at "row_Fa"); (case k2 => walk_at "om_Fa"); (case k3 => walk_at "om_Fa"))
  | ((with_reducible refine' rd_stepsL ?k1 ?k2 ?k3 ?k4 ?k5 ?_); (case k1 => walk_at "row_Fa"); (case k2 => walk_at "om_Fa"); (case k3 => walk_at "om_Fa"); (case k4 => walk_at "om_Fa"); (case k5 => walk_at "om_Fa"))
  | ((with_reducible refine' rd_listS ?k1 ?_); (case k1 => walk_at "ts_Fa"))
  | ((with_reducible refine' rd_ofSteps ?k1 ?k2 ?k3 ?_); (case k1 => walk_at "sx_Fa"); (case k2 => walk_at "om_Fa"); (case k3 => walk_at "om_Fa"))
  | ((with_reducible refine' rd_pSize ?k1 ?_); (case k1 => walk_at "tx_Fa"))
  | ((with_reducible refine' rd_pTyped ?k1 ?_); (case k1 => walk_at "tx_Fa"))
  | ((with_reducible refine' rd_pSteps ?k1 ?_); (case k1 => walk_at "tx_Fa"))
  | ((with_reducible refine' rd_oCall ?k1 ?k2 ?k3 ?_); (case k1 => walk_at "tx_Fa"); (case k2 => walk_at "om_Fa"); (case k3 => walk_at "om_Fa"))
  | ((with_reducible refine' rd_oItem ?k1 ?k2 ?k3 ?_); (case k1 => walk_at "tx_Fa"); (case k2 => walk_at "om_Fa"); (case k3 => walk_at "om_Fa"))
  | ((with_reducible refine' rd_opAdd ?k1 ?k2 ?k3 ?k4 ?_); (case k1 => walk_at "tx_Fa"); (case k2 => walk_at "tx_Fa"); (case k3 => walk_at "om_Fa"); (case k4 => walk_at "om_Fa"))
  | ((with_reducible refine' rd_opMul ?k1 ?k2 ?k3 ?k4 ?k5 ?_); (case k1 => walk_at "tx_Fa"); (case k2 => walk_at "om_Fa"); (case k3 => walk_at "om_Fa"); (case k4 => walk_at "om_Fa"); (case k5 => walk_at "om_Fa"))
  | ((with_reducible refine' rd_opEq ?k1 ?k2 ?_); (case k1 => walk_at "tx_Fa"); (case k2 => walk_at "tx_Fa"))
  | ((with_reducible refine' rd_opEqT ?k1 ?k2 ?_); (case k1 => walk_at "tx_Fa"); (case k2 => walk_at "ts_Fa"))
  | ((with_reducible refine' rd_opNe ?k1 ?k2 ?_); (case k1 => walk_at "tx_Fa"); (case k2 => walk_at "tx_Fa"))
  | ((with_reducible refine' rd_mTx ?k1 ?k2 ?_); (case k1 => walk_at "tx_Fa"); (case k2 => decide +kernel))
  | ((with_reducible refine' rd_mRetyped ?k1 ?k2 ?k3 ?_); (case k1 => walk_at "tx_Fa"); (case k2 => walk_at "om_Fa"); (case k3 => walk_at "om_Fa"))
  | ((with_reducible refine' rd_eqTT ?k1 ?k2 ?k3 ?k4 ?_); (case k1 => walk_at "ts_Fa"); (case k2 => walk_at "ts_Fa"); (case k3 => first | assumption | trivial); (case k4 => first | assumption | trivial))
  | ((with_reducible refine' rd_neTT ?k1 ?k2 ?k3 ?k4 ?_); (case k1 => walk_at "ts_Fa"); (case k2 => walk_at "ts_Fa"); (case k3 => first | assumption | trivial); (case k4 => first | assumption | trivial))
  | ((with_reducible refine' rd_neNN ?k1 ?k2 ?_); (case k1 => walk_at "ls_Fa"); (case k2 => walk_at "ls_Fa"))
  | ((with_reducible refine' rd_eqNN ?k1 ?k2 ?_); (case k1 => walk_at "ls_Fa"); (case k2 => walk_at "ls_Fa"))
  | ((with_reducible refine' rd_lenN ?k1 ?_); (case k1 => walk_at "ls_Fa"))
  | ((with_reducible refine' rd_lenS ?k1 ?_); (case k1 => walk_at "om_Fa"))
  | ((with_reducible refine' rd_ixN ?k1 ?k2 ?k3 ?_); (case k1 => walk_at "ls_Fa"); (case k2 => walk_at "om_Fa"); (case k3 => walk_at "om_Fa"))
  | ((with_reducible refine' rd_ixC ?k1 ?k2 ?k3 ?_); (case k1 => walk_at "om_Fa"); (case k2 => walk_at "om_Fa"); (case k3 => walk_at "om_Fa"))
  | ((with_reducible refine' rd_gtup ?k1 ?k2 ?_); (case k1 => exact SqT.of (by assumption)); (case k2 => rfl))
  | ((with_reducible refine' rd_new ?k1 ?_); (case k1 => walk_at "zl_Fa"))
  | with_reducible refine rd_ref1 ?_
  | with_reducible refine rd_nF rfl ?_ | with_reducible refine rd_dT rfl ?_ | with_reducible refine rd_cT rfl ?_ | with_reducible refine rd_cF rfl ?_
  | ((with_reducible refine' rd_dT ?k1 ?_); (case k1 => omega)) | ((with_reducible refine' rd_dF ?k1 ?_); (case k1 => omega)) | ((with_reducible refine' rd_nT ?k1 ?_); (case k1 => omega)) | ((with_reducible refine' rd_nF ?k1 ?_); (case k1 => omega)))
local macro_rules | `(tactic| walk_at "rdS_Fa") => `(tactic| repeat ((fail_if_success with_reducible show tIfS _ _ _ _ _ _); walk_at "rd1_Fa"))
local macro_rules | `(tactic| walk_at "rd1_hid1") => `(tactic| walk_at "rd1_Fa")
local macro_rules | `(tactic| walk_at "rd_hid1") => `(tactic| repeat walk_at "rd1_hid1")
local macro_rules | `(tactic| walk_at "rdS_hid1") => `(tactic| repeat ((fail_if_success with_reducible show tIfS _ _ _ _ _ _); walk_at "rd1_hid1"))
local macro_rules | `(tactic| walk_at "rd1_hid1") => `(tactic| first
  | with_reducible refine rd_listRg ?_ | with_reducible refine rd_dsetd ?_
  | ((with_reducible refine' rd_insRd ?k1 ?k2 ?_); (case k1 => assumption); (case k2 => decide +kernel))
  | ((with_reducible refine' rd_rdHead ?k1 ?k2 ?_); (case k1 => assumption); (case k2 => omega)))
section
variable {P : Program} {w : World} {K : PySem.W.Frag} {mg : Str → Option Value} {base : Heap} {CText CPart CKeyReader : Addr}
theorem ok_KeyReader_init (T : Txt K mg CText CPart CKeyReader) : KOk P w K mg base CX0 3 CKeyReader (sp_KeyReader_init K CText CPart CKeyReader) := by
  refine T.d_KeyReader_init.ok sc_KeyReader_init (fun vs H Q E h => ?len) (fun f cdv A outer s H vs Q E hr h => ?_)
  case len => obtain ⟨x, dx, t, ss, rfl, _⟩ := h; rfl
  · obtain ⟨x, dx, t, ss, rfl, hx, tx, k⟩ := h
    refine ⟨_, (pss_cons (ps_fld (pv 0) (pv 1) rfl)
    (pss_cons (ps_fld (pv 0) (pe_listRg rfl rfl T.n_list (prg_1 rfl T.n_range (pe_callB (lenK (K := K) rfl) rfl T.n_len (by decide +kernel) (pa_cons (pe_p (pv 1) T.cText (ok_Text_typed_keys (K := K) T) (hr.mono (by decide)) pass0) pa_nil)))) rfl)
    (pss_cons (ps_fld (pv 0) pe_dnewK rfl)
    (pss_one (ps_fld (pv 0) (pe_tup pa_nil) rfl))))), ?_⟩
    refine rd_startE (show start N_KeyReader_init [.ref x, .ref t] = [some (.ref x), some (.ref t)] from rfl) ?_
    have n1 := T.ne_Text_KeyReader
    have n2 := T.ne_Part_KeyReader
    have nk := tyL_small tx.ok
    have few := tx.few
    walk_at "rd_hid1"
    refine rd_edset hx T.cKeyReader T.na_KeyReader_source_text (by decide) fun H1 b1 e1 => ?_
    have tx1 := tx.km n1 n2 (Km.but (T := []) b1 hx)
    walk_at "rd_hid1"
    refine ⟨RgOk.of_le (by omega) (by omega) (by omega) (by omega), fun hl hh => ?_⟩
    rw [rgV_zero]
    have S2 : Same H1 (upd H1 hl (.lst (natV (List.range (tyL ss).length)))) := Same.new (Same.refl _) hh
    have e2 : upd H1 hl (.lst (natV (List.range (tyL ss).length))) hl = some (.lst (natV (List.range (tyL ss).length))) := upd_same
    revert S2 e2
    generalize upd H1 hl (.lst (natV (List.range (tyL ss).length))) = H2
    intro S2 e2
    walk_at "rd_hid1"
    refine rd_edset (S2 _ _ e1) T.cKeyReader T.na_KeyReader_heads (Nat.lt_of_le_of_lt (putF_len (k := 0) (by decide)) (by decide)) fun H3 b3 e3 => ?_
    walk_at "rd_hid1"
    refine fun d hd => ?_
    have S4 : Same H3 (upd H3 d (.dK [])) := Same.new (Same.refl _) hd
    have e4 : upd H3 d (.dK []) d = some (.dK []) := upd_same
    revert S4 e4
    generalize upd H3 d (.dK []) = H4
    intro S4 e4
    walk_at "rd_hid1"
    refine rd_edset (S4 _ _ e3) T.cKeyReader T.na_KeyReader_letters (Nat.lt_of_le_of_lt (putF_len (k := 1) (putF_len (k := 0) (by decide))) (by decide)) fun H5 b5 e5 => ?_
    walk_at "rd_hid1"
    intro q6 H6 S6 e6 _
    walk_at "rd_hid1"
    refine rd_edset (S6 _ _ e5) T.cKeyReader T.na_KeyReader_seen (Nat.lt_of_le_of_lt (putF_len (k := 2) (putF_len (k := 1) (putF_len (k := 0) (by decide)))) (by decide)) fun H7 b7 e7 => ?_
    rw [rdF_made] at e7
    walk_at "rd_hid1"
    have m67 : Km CKeyReader [] H6 H7 := Km.but b7 (S6 _ _ e5)
    have m47 : Km CKeyReader [] H4 H7 := ((Km.but b5 (S4 _ _ e3)).trans (.same S6)).trans m67
    have m27 : Km CKeyReader [] H2 H7 := ((Km.but b3 (S2 _ _ e1)).trans (.same S4)).trans m47
    have m17 : Km CKeyReader [] H1 H7 := (Km.same S2).trans m27
    have hx1 : hl ≠ x := fun z => by subst z; rw [hh] at e1; cases e1
    have hd1 : d ≠ x := fun z => by subst z; rw [hd] at e3; cases e3
    have hH : H hl = none := by
      cases e : H hl with
      | none => rfl
      | some o => rw [b1 _ _ hx1 e] at hh; cases hh
    have B3 : But x H H3 := (b1.trans (.same S2)).trans b3
    have dH : H d = none := by
      cases e : H d with
      | none => rfl
      | some o => rw [B3 _ _ hd1 e] at hd; cases hd
    have hdl : hl ≠ d := fun z => by subst z; rw [b3 _ _ hx1 e2] at hd; cases hd
    exact k _ hl d ((B3.trans (.same S4)).trans ((b5.trans (.same S6)).trans b7)) hH dH hx1 hd1 hdl ⟨⟨dx, t, q6, [], List.range (tyL ss).length⟩, e7, tx1.km n1 n2 m17, m27.li nr_natV e2, m47.keep _ _ id (fun _ z => nomatch z) (fun _ _ z => nomatch z) e4, m67.tup (SqT.of e6), .nil, Rt.start _, List.length_range, .nil⟩
end
section
variable {P : Program} {w : World} {K : PySem.W.Frag} {mg : Str → Option Value} {base : Heap} {CText CPart CKeyReader : Addr}
theorem ok_KeyReader_head (T : Txt K mg CText CPart CKeyReader) : MOk P w K mg base CX0 1 CKeyReader "head" (sp_KeyReader_head K CText CPart CKeyReader) := by
  refine T.d_KeyReader_head.ok sc_KeyReader_head (fun vs H Q E h => ?len) (fun f cdv A outer s H vs Q E hr h => ?_)
  case len => obtain ⟨x, h', d, ss, f, ls, ob, k, rfl, _⟩ := h; rfl
  · obtain ⟨x, hl, d, ss, f, ls, ob, k0, rfl, ⟨i, r⟩, hk, q⟩ := h
    refine ⟨_, (pss_cons (ps_while PassesOwn.never (pt_cmpR (neK (K := K) rfl hr.units) (pe_ix (ixK (K := K) rfl) (pe_fldK (K := K) rfl (pv 0) (by rfl)) (pv 1) (fun _ _ => rfl)) (pv 1) (nomark _)) (pss_one (ps_set (i := 1) sc_KeyReader_head.nd rfl (Or.inl rfl) (pe_ix (ixK (K := K) rfl) (pe_fldK (K := K) rfl (pv 0) (by rfl)) (pv 1) (fun _ _ => rfl)))))
    (pss_one (ps_ret (pv 1)))), ?_⟩
    refine rd_startE (show start N_KeyReader_head [.ref x, .int (k0 : Nat)] = [some (.ref x), some (.int (k0 : Nat))] from rfl) ?_
    have hn := r.len
    have el := r.hl
    have nk := r.ok
    walk_at "rd_hid1"
    refine rd_while (fun m σ H' => ∃ k : Nat, σ = [some (.ref x), some (.int (k : Nat))] ∧ H' = H ∧ k < (tyL ss).length ∧ f k = f k0 ∧ m = k) ⟨k0, k0, rfl, rfl, hk, rfl, rfl⟩ ?_
    rintro m σ H' ⟨k, rfl, rfl, hk', ef, rfl⟩
    have hle := r.rt.le m (by omega)
    have hrt := r.rt.root m (by omega)
    have hst := r.rt.step m (by omega)
    walk_at "rd_hid1"
    refine rd_fld_at r.ins T.cKeyReader T.na_KeyReader_heads rdF_heads ?_
    walk_at "rd_hid1"
    rw [Int.toNat_natCast]
    obtain ⟨m', em⟩ : ∃ m', i.hs[m]?.getD 0 = m' := ⟨_, rfl⟩
    rw [em] at hle hrt hst ⊢
    refine rd_iteN (fun z => ?_) (fun z => ?_)
    · refine ⟨fun σ' H2 => ∃ m2, m2 < m ∧ ∃ k : Nat, σ' = [some (.ref x), some (.int (k : Nat))] ∧ H2 = H' ∧ k < (tyL ss).length ∧ f k = f k0 ∧ m2 = k, fun _ _ z => z, ?_⟩
      walk_at "rd_hid1"
      refine rd_fld_at r.ins T.cKeyReader T.na_KeyReader_heads rdF_heads ?_
      walk_at "rd_hid1"
      rw [Int.toNat_natCast, em]
      exact ⟨m', by omega, m', rfl, rfl, by omega, by omega, rfl⟩
    · walk_at "rd_hid1"
      have e : f m = m := hrt (by omega)
      rw [show m = f k0 by omega]
      exact q
end
section
variable {P : Program} {w : World} {K : PySem.W.Frag} {mg : Str → Option Value} {base : Heap} {CText CPart CKeyReader : Addr}
theorem ok_KeyReader_accept_letter (T : Txt K mg CText CPart CKeyReader) : MOk P w K mg base CX0 2 CKeyReader "accept_letter" (sp_KeyReader_accept_letter K CText CPart CKeyReader) := by
  refine T.d_KeyReader_accept_letter.ok sc_KeyReader_accept_letter (fun vs H Q E h => ?len) (fun f cdv A outer s H vs Q E hr h => ?_)
  case len => obtain ⟨x, h', d, ss, f, ls, ob, k, c, rfl, _⟩ := h; rfl
  · obtain ⟨x, hl, d, ss, f, ls, ob, k, c, rfl, ⟨i, r⟩, hk, h1, h2, hc, q⟩ := h
    refine ⟨_, (pss_cons (ps_set (i := 3) sc_KeyReader_accept_letter.nd rfl (Or.inl rfl) (pe_m (pv 0) T.cKeyReader (ok_KeyReader_head (K := K) T) (hr.mono (by decide)) pass0 (pa_cons (pv 1) pa_nil)))
    (pss_cons (ps_if (pt_cmpR (neK (K := K) rfl hr.units) (pe_dget2 (hu_of hr) (pe_fldK (K := K) rfl (pv 0) (by rfl)) (pv 3) (pv 2) ⟨rfl, rfl, rfl, rfl⟩) (pv 2) (nomark _)) (pss_one ps_never)
    pss_nil)
    (pss_one (ps_dput (hu_of hr) (pe_fldK (K := K) rfl (pv 0) (by rfl)) (pv 3) (pv 2) rfl)))), ?_⟩
    refine rd_startE (show start N_KeyReader_accept_letter [.ref x, .int (k : Nat), .str ⟨#[c]⟩] = [some (.ref x), some (.int (k : Nat)), some (.str ⟨#[c]⟩), none] from rfl) ?_
    have nk := r.ok
    obtain ⟨f1, f2, f3⟩ := r.spec hk
    walk_at "rd_hid1"
    refine rd_dget2 ?_
    walk_at "rd_hid1"
    refine rd_fld_at r.ins T.cKeyReader T.na_KeyReader_letters rdF_letters ?_
    refine ⟨_, rfl, .inl ⟨_, .inl r.dl⟩, ?_⟩
    walk_at "rd_hid1"
    refine ⟨_, kvM_dget r.dl (f k), ?_⟩
    walk_at "rd_hid1"
    have e : ((gL ls (f k)).map fun c => V.str ⟨#[c]⟩).getD (.str ⟨#[c]⟩) = .str ⟨#[c]⟩ := by
      cases z : gL ls (f k) with
      | none => rfl
      | some c' => rw [hc c' z]; rfl
    rw [e]
    walk_at "rd_hid1"
    refine rd_dput ?_
    walk_at "rd_hid1"
    refine rd_fld_at r.ins T.cKeyReader T.na_KeyReader_letters rdF_letters ?_
    walk_at "rd_hid1"
    have ll := r.lok.len
    exact ⟨d, _, rfl, kvM_dput r.dl (by omega) (f k) c, q _ (But.at But.refl) ⟨i, r.put T.ne_Text_KeyReader T.ne_Part_KeyReader (by omega) h1 h2⟩⟩
end
section
variable {P : Program} {w : World} {K : PySem.W.Frag} {mg : Str → Option Value} {base : Heap} {CText CPart CKeyReader : Addr}
theorem ok_KeyReader_known_count (T : Txt K mg CText CPart CKeyReader) : MOk P w K mg base CX0 2 CKeyReader "known_count" (sp_KeyReader_known_count K CText CPart CKeyReader) := by
  refine T.d_KeyReader_known_count.ok sc_KeyReader_known_count (fun vs H Q E h => ?len) (fun f cdv A outer s H vs Q E hr h => ?_)
  case len => obtain ⟨x, h', d, ss, f, ls, ob, rfl, _⟩ := h; rfl
  · obtain ⟨x, hl, d, ss, f, ls, ob, rfl, ⟨i, r⟩, q⟩ := h
    refine ⟨_, (pss_one (ps_ret (pe_callB (lenK (K := K) rfl) rfl T.n_len (by decide +kernel) (pa_cons (pe_lc (own := [("key", 1)]) rfl sc_KeyReader_known_count.nd (pi_range1 rfl T.n_range (pa_cons (pe_callB (lenK (K := K) rfl) rfl T.n_len (by decide +kernel) (pa_cons (pe_fldK (K := K) rfl (pv 0) (by rfl)) pa_nil)) pa_nil)) (blkOk_by (own := [("key", 1)]) (N := N_KeyReader_known_count) (sc := (defScope s_KeyReader_known_count)) (by first | decide +kernel | rfl)) (fun _ _ _ _ _ => (pg_name (i := 1) sc_KeyReader_known_count.nd rfl (Or.inl rfl))) (fun _ _ _ _ _ => (pts_one (pt_cmp (pc_din (hu_of hr) (pe_m (pv 0) T.cKeyReader (ok_KeyReader_head (K := K) T) (hr.mono (by decide)) pass0 (pa_cons (pv 1) pa_nil)) (pe_fldK (K := K) rfl (pv 0) (by rfl)))))) (fun _ _ _ _ _ => (pv 1))) pa_nil)))), ?_⟩
    refine rd_startE (show start N_KeyReader_known_count [.ref x] = [some (.ref x), none] from rfl) ?_
    have hn := r.len
    have el := r.hl
    have nk := r.ok
    walk_at "rd_hid1"
    refine rd_fld_at r.ins T.cKeyReader T.na_KeyReader_heads rdF_heads ?_
    walk_at "rd_hid1"
    rw [hn]
    refine ⟨_, rfl, by omega, by omega, fun D hD => lc_filt (f := fun k => .int (0 + (k : Nat))) (p := fun k => (gL ls (f k)).isSome) (n := (tyL ss).length) (it := fun i => .int (0 + (i : Nat))) (by rw [Int.toNat_natCast]; exact plain_rng) hD (by rw [sizeLine_eq]; omega) (fun _ => rfl) (fun k H1 R1 hk S1 qq => ?_) (fun k H1 Q1 hk hp S1 qq => ?_) fun H1 S1 eD => ?_⟩
    · have r1 := r.same S1
      rw [show (0 : Int) + (k : Nat) = (k : Nat) by omega]
      walk_at "rd_hid1"
      refine rd_din ?_
      walk_at "rd_hid1"
      refine rd_fld_at r1.ins T.cKeyReader T.na_KeyReader_letters rdF_letters ?_
      refine ⟨d, _, rfl, kvM_dget r1.dl (f k), ?_⟩
      walk_at "rd_hid1"
      rw [Option.isSome_map]
      exact qq _ (Same.refl _)
    · walk_at "rd_hid1"
      exact qq _ (Same.refl _)
    · walk_at "rd_hid1"
      refine rd_lenL eD ?_
      rw [List.length_map]
      exact q _ S1
end
section
variable {P : Program} {w : World} {K : PySem.W.Frag} {mg : Str → Option Value} {base : Heap} {CText CPart CKeyReader : Addr}
theorem ok_KeyReader_see (T : Txt K mg CText CPart CKeyReader) : MOk P w K mg base CX0 4 CKeyReader "see" (sp_KeyReader_see K CText CPart CKeyReader) := by
  refine T.d_KeyReader_see.ok sc_KeyReader_see (fun vs H Q E h => ?len) (fun f cdv A outer s H vs Q E hr h => ?_)
  case len => obtain ⟨x, h', d, ss, f, ls, ob, p, c, rfl, _⟩ := h; rfl
  · obtain ⟨x, hl, d, ss, f, ls, ob, p, c, rfl, ⟨i, r⟩, hp, h1, h2, hc, ho, q⟩ := h
    refine ⟨_, (pss_cons (ps_set (i := 3) sc_KeyReader_see.nd rfl (Or.inl rfl) (pe_oF (K := K) rfl (pv 0) (ok_Text_call (K := K) T) (hr.mono (by decide)) pass0 (pa_cons (pv 1) pa_nil)))
    (pss_cons (ps_if (pt_not (pt_val (pe_g (ok_is_letter (K := K) T) (hr.mono (by decide)) pass0 (pa_cons (pv 2) pa_nil)))) (pss_one ps_never)
    pss_nil)
    (pss_cons (ps_expr (pe_m (pv 0) T.cKeyReader (ok_KeyReader_accept_letter (K := K) T) (hr.mono (by decide)) pass0 (pa_cons (pv 3) (pa_cons (pv 2) pa_nil))))
    (pss_cons (ps_fld (pv 0) (pe_tup (pa_starK (K := K) rfl (pe_fldK (K := K) rfl (pv 0) (by rfl)) (pa_cons (pe_tup (pa_cons pe_str (pa_cons (pv 1) (pa_cons (pv 2) pa_nil)))) pa_nil))) rfl)
    (pss_one (ps_ret (pe_m0 (pv 0) T.cKeyReader (ok_KeyReader_known_count (K := K) T) (hr.mono (by decide)) pass0))))))), ?_⟩
    refine rd_startE (show start N_KeyReader_see [.ref x, .int (p : Nat), .str ⟨#[c]⟩] = [some (.ref x), some (.int (p : Nat)), some (.str ⟨#[c]⟩), none] from rfl) ?_
    have nk := r.ok
    walk_at "rd_hid1"
    refine rd_oF ?_
    walk_at "rd_hid1"
    refine rd_fld_at r.ins T.cKeyReader T.na_KeyReader_source_text rdF_text ?_
    have fw := r.tx.few
    have kl := kat_lt r.tx.ok hp
    refine ⟨_, rfl, ?_⟩
    walk_at "rd_hid1"
    refine rd_oCall r.tx (by omega) (by omega) ?_
    rw [Int.toNat_natCast]
    walk_at "rd_hid1"
    refine rd_isLetter ⟨h1, h2⟩ ?_
    walk_at "rd_hid1"
    refine ⟨x, hl, d, ss, f, ls, ob, kat ss p, c, rfl, ⟨i, r⟩, kl, h1, h2, hc, fun H1 b1 ⟨j, r1⟩ => ?_⟩
    walk_at "rd_hid1"
    refine rd_fld_at r1.ins T.cKeyReader T.na_KeyReader_seen rdF_seen ?_
    refine ⟨j.s, j.sm, rfl, .inl r1.sn, ?_⟩
    walk_at "rd_hid1"
    intro q2 H2 S2 e2 _
    have r2 := r1.same S2
    have lo := r1.obs.1
    walk_at "rd_hid1"
    refine rd_new (by rw [sizeLine_eq, List.length_append, List.length_singleton]; omega) fun q3 H3 S3 e3 _ => ?_
    have r3 := r2.same S3
    walk_at "rd_hid1"
    refine rd_edset r3.ins T.cKeyReader T.na_KeyReader_seen rdF_len fun H4 b4 e4 => ?_
    rw [rdF_put] at e4
    have r4 := r3.seen T.ne_Text_KeyReader T.ne_Part_KeyReader b4 e4 (SqT.of e3) (r3.obs.snoc (o := .see p c) (SqT.of (S3 _ _ e2)))
    have B : Bt [x, hl, d] H H4 := ((Bt.but b1 (by simp)).trans (.same (S2.trans S3))).trans (Bt.but b4 (by simp))
    walk_at "rd_hid1"
    exact ⟨x, hl, d, ss, f, _, _, rfl, ⟨_, r4⟩, fun H5 S5 => q _ (B.trans (.same S5)) ⟨_, r4.same S5⟩⟩
end
section
variable {P : Program} {w : World} {K : PySem.W.Frag} {mg : Str → Option Value} {base : Heap} {CText CPart CKeyReader : Addr}
theorem ok_KeyReader_known_letters (T : Txt K mg CText CPart CKeyReader) : POk P w K mg base CX0 2 CKeyReader "known_letters" (sp_KeyReader_known_letters K CText CPart CKeyReader) := by
  refine T.d_KeyReader_known_letters.ok sc_KeyReader_known_letters (fun vs H Q E h => ?len) (fun f cdv A outer s H vs Q E hr h => ?_)
  case len => obtain ⟨x, h', d, ss, f, ls, ob, rfl, _⟩ := h; rfl
  · obtain ⟨x, hl, d, ss, f, ls, ob, rfl, ⟨i, r⟩, q⟩ := h
    refine ⟨_, (pss_cons (ps_setLc (i := 1) (own := [("key", 2)]) rfl sc_KeyReader_known_letters.nd rfl rfl (sw_true rfl rfl rfl (by decide +kernel)) (pi_range1 rfl T.n_range (pa_cons (pe_callB (lenK (K := K) rfl) rfl T.n_len (by decide +kernel) (pa_cons (pe_fldK (K := K) rfl (pv 0) (by rfl)) pa_nil)) pa_nil)) (blkOk_by (own := [("key", 2)]) (N := N_KeyReader_known_letters) (sc := (defScope s_KeyReader_known_letters)) (by first | decide +kernel | rfl)) (fun _ _ _ _ _ => (pg_name (i := 2) sc_KeyReader_known_letters.nd rfl (Or.inl rfl))) (fun _ _ _ _ _ => pts_nil) (fun _ _ _ _ _ => (pe_tup (pa_cons (pv 2) (pa_cons (pe_m (pv 0) T.cKeyReader (ok_KeyReader_head (K := K) T) (hr.mono (by decide)) pass0 (pa_cons (pv 2) pa_nil)) pa_nil)))))
    (pss_one (ps_ret (pe_dc (own := [("key", 2), ("head", 3)]) rfl sc_KeyReader_known_letters.nd (pi_listK (K := K) rfl (pv 1)) (blkOk_by (own := [("key", 2), ("head", 3)]) (N := N_KeyReader_known_letters) (sc := (defScope s_KeyReader_known_letters)) (by first | decide +kernel | rfl)) (fun _ _ _ _ _ => (pg_tupK (K := K) (n := 2) rfl rfl (pgs_cons (pg_name (i := 2) sc_KeyReader_known_letters.nd rfl (Or.inl rfl)) (pgs_cons (pg_name (i := 3) sc_KeyReader_known_letters.nd rfl (Or.inl rfl)) pgs_nil)))) (fun _ _ _ _ _ => (pts_one (pt_cmp (pc_din (hu_of hr) (pv 3) (pe_fldK (K := K) rfl (pv 0) (by rfl)))))) (fun _ _ _ _ _ => (pv 2)) (fun _ _ _ _ _ => (pe_dget (hu_of hr) (pe_fldK (K := K) rfl (pv 0) (by rfl)) (pv 3) (fun _ _ => rfl))))))), ?_⟩
    refine rd_startE (show start N_KeyReader_known_letters [.ref x] = [some (.ref x), none, none, none] from rfl) ?_
    have hn := r.len
    have el := r.hl
    have nk := r.ok
    walk_at "rd_hid1"
    refine rd_fld_at r.ins T.cKeyReader T.na_KeyReader_heads rdF_heads ?_
    walk_at "rd_hid1"
    rw [hn]
    refine ⟨_, rfl, by omega, by omega, fun D hD => lc_rel (n := (tyL ss).length) (it := fun i => .int (0 + (i : Nat))) (by rw [Int.toNat_natCast]; exact plain_rng) hD (by rw [sizeLine_eq]; omega) (fun _ => rfl) (fun k v H' => ∃ p, v = .ref p ∧ H' p = some (.tup [.int (k : Nat), .int (f k : Nat)])) (fun k y H1 H2 l hk eD B st => ?_) (fun k H1 Q1 hk S1 qq => ?_) fun H1 ys S1 eD hyl ans => ?_⟩
    · obtain ⟨p, rfl, e⟩ := st
      exact ⟨p, rfl, B _ _ (fun z => by subst z; rw [eD] at e; cases e) e⟩
    · have r1 := r.same S1
      rw [show (0 : Int) + (k : Nat) = (k : Nat) by omega]
      walk_at "rd_hid1"
      intro p H2 S2 e2 _
      exact qq _ _ S2 ⟨p, rfl, e2⟩
    · walk_at "rd_hid1"
      refine rd_dc ?_
      walk_at "rd_hid1"
      have r1 := r.same S1
      refine ⟨⟨_, SqL.of eD⟩, fun D2 hD2 => dc_filtG (it := fun i => (ys[i]?).getD .non) (n := (tyL ss).length) (by rw [← hyl]; exact plain_list (SqL.of eD)) hD2 (by rw [sizeLine_eq]; omega)
        (fun k => [some (.ref x), some (.ref D), some (.int (k : Nat)), some (.int (f k : Nat))]) (fun _ => rfl) (fun k H2 R2 hk S2 q2 => ?_) (fun k => (Sum.inl ((k : Nat) : Int) : Key)) (fun k => .str ⟨#[(gL ls (f k)).getD 0]⟩) (fun k => (gL ls (f k)).isSome) (fun i j h1 h2 z => by have := Sum.inl.inj z; omega) (fun k H2 R2 hk S2 q2 => ?_) (fun k H2 Q2 hk hp S2 q2 => ?_) (fun k H2 Q2 hk hp S2 q2 => ?_) fun H2 S2 e2 => ?_⟩
      · obtain ⟨y, ey, p, rfl, ep⟩ := ans k hk
        rw [ey]
        refine rd_gtup (SqT.of (S2 _ _ ep)) rfl ?_
        walk_at "rd_hid1"
        exact q2
      · have r2 := r1.same S2
        walk_at "rd_hid1"
        refine rd_din ?_
        walk_at "rd_hid1"
        refine rd_fld_at r2.ins T.cKeyReader T.na_KeyReader_letters rdF_letters ?_
        refine ⟨d, _, rfl, kvM_dget r2.dl (f k), ?_⟩
        walk_at "rd_hid1"
        rw [Option.isSome_map]
        exact q2 _ (Same.refl _)
      · walk_at "rd_hid1"
        exact q2 _ (Same.refl _)
      · have r2 := r1.same S2
        walk_at "rd_hid1"
        refine rd_dget ?_
        walk_at "rd_hid1"
        refine rd_fld_at r2.ins T.cKeyReader T.na_KeyReader_letters rdF_letters ?_
        walk_at "rd_hid1"
        obtain ⟨c, hc⟩ := Option.isSome_iff_exists.mp hp
        refine ⟨d, .str ⟨#[c]⟩, rfl, ?_, ?_⟩
        · have := kvM_dget r2.dl (f k)
          rw [hc] at this
          exact this
        · have := q2 H2 (Same.refl _)
          rw [hc] at this
          exact this
      · refine q _ D2 (S1.trans S2) ?_ (by rw [knownL_kv]; exact e2)
        cases e : H D2 with
        | none => rfl
        | some o => rw [S1 _ _ e] at hD2; cases hD2
end
section
variable {P : Program} {w : World} {K : PySem.W.Frag} {mg : Str → Option Value} {base : Heap} {CText CPart CKeyReader : Addr}
theorem ok_KeyReader_open_heads (T : Txt K mg CText CPart CKeyReader) : MOk P w K mg base CX0 1 CKeyReader "open_heads" (sp_KeyReader_open_heads K CText CPart CKeyReader) := by
  refine T.d_KeyReader_open_heads.ok sc_KeyReader_open_heads (fun vs H Q E h => ?len) (fun f cdv A outer s H vs Q E hr h => ?_)
  case len => obtain ⟨x, h', d, ss, f, ls, ob, rfl, _⟩ := h; rfl
  · obtain ⟨x, hl, d, ss, f, ls, ob, rfl, ⟨i, r⟩, q⟩ := h
    refine ⟨_, (pss_one (ps_ret (pe_lc (own := [("key", 1)]) rfl sc_KeyReader_open_heads.nd (pi_range1 rfl T.n_range (pa_cons (pe_callB (lenK (K := K) rfl) rfl T.n_len (by decide +kernel) (pa_cons (pe_fldK (K := K) rfl (pv 0) (by rfl)) pa_nil)) pa_nil)) (blkOk_by (own := [("key", 1)]) (N := N_KeyReader_open_heads) (sc := (defScope s_KeyReader_open_heads)) (by first | decide +kernel | rfl)) (fun _ _ _ _ _ => (pg_name (i := 1) sc_KeyReader_open_heads.nd rfl (Or.inl rfl))) (fun _ _ _ _ _ => (pts_one (PW.pt (pw_and (pt_cmpR (eqK (K := K) rfl hr.units) (pe_ix (ixK (K := K) rfl) (pe_fldK (K := K) rfl (pv 0) (by rfl)) (pv 1) (fun _ _ => rfl)) (pv 1) (nomark _)) (pw_and1 (pt_cmp (pc_dnotin (hu_of hr) (pv 1) (pe_fldK (K := K) rfl (pv 0) (by rfl))))))))) (fun _ _ _ _ _ => (pv 1))))), ?_⟩
    refine rd_startE (show start N_KeyReader_open_heads [.ref x] = [some (.ref x), none] from rfl) ?_
    have hn := r.len
    have el := r.hl
    have nk := r.ok
    walk_at "rd_hid1"
    refine rd_fld_at r.ins T.cKeyReader T.na_KeyReader_heads rdF_heads ?_
    walk_at "rd_hid1"
    rw [hn]
    refine ⟨_, rfl, by omega, by omega, fun D hD => lc_filt (f := fun k => .int (k : Nat)) (p := fun k => decide (f k = k) && (gL ls k).isNone) (n := (tyL ss).length) (it := fun i => .int (0 + (i : Nat))) (by rw [Int.toNat_natCast]; exact plain_rng) hD (by rw [sizeLine_eq]; omega) (fun _ => rfl) (fun k H1 R1 hk S1 qq => ?_) (fun k H1 Q1 hk hp S1 qq => ?_) fun H1 S1 eD => ?_⟩
    · have r1 := r.same S1
      have el1 := r1.hl
      have hle := r.rt.le k (by omega)
      have hrt := r.rt.root k (by omega)
      obtain ⟨f1, f2, f3⟩ := r.spec hk
      rw [show (0 : Int) + (k : Nat) = (k : Nat) by omega]
      walk_at "rd_hid1"
      refine rd_fld_at r1.ins T.cKeyReader T.na_KeyReader_heads rdF_heads ?_
      walk_at "rd_hid1"
      rw [Int.toNat_natCast]
      refine rd_ite (fun h => ?_) (fun h => ?_)
      · have fk := hrt (by omega)
        walk_at "rd_hid1"
        refine rd_dnotin ?_
        walk_at "rd_hid1"
        refine rd_fld_at r1.ins T.cKeyReader T.na_KeyReader_letters rdF_letters ?_
        refine ⟨d, _, rfl, kvM_dget r1.dl k, ?_⟩
        walk_at "rd_hid1"
        have := qq _ (Same.refl _)
        rw [decide_eq_true fk, Bool.true_and] at this
        rw [show (!((gL ls k).map fun c => V.str ⟨#[c]⟩).isSome) = (gL ls k).isNone by cases gL ls k <;> rfl]
        exact this
      · have fk : f k ≠ k := fun z => by rw [z] at f2; omega
        have := qq _ (Same.refl _)
        rw [decide_eq_false fk, Bool.false_and] at this
        exact this
    · rw [show (0 : Int) + (k : Nat) = (k : Nat) by omega]
      walk_at "rd_hid1"
      exact qq _ (Same.refl _)
    · exact q _ _ S1 hD eD
end
section
variable {P : Program} {w : World} {K : PySem.W.Frag} {mg : Str → Option Value} {base : Heap} {CText CPart CKeyReader : Addr}
theorem ok_KeyReader_first_place (T : Txt K mg CText CPart CKeyReader) : MOk P w K mg base CX0 3 CKeyReader "first_place" (sp_KeyReader_first_place K CText CPart CKeyReader) := by
  refine T.d_KeyReader_first_place.ok sc_KeyReader_first_place (fun vs H Q E h => ?len) (fun f cdv A outer s H vs Q E hr h => ?_)
  case len => obtain ⟨x, h', d, ss, f, ls, ob, k, rfl, _⟩ := h; rfl
  · obtain ⟨x, hl, d, ss, f, ls, ob, k, rfl, ⟨i, r⟩, hk, q⟩ := h
    refine ⟨_, (pss_cons (ps_set (i := 2) sc_KeyReader_first_place.nd rfl (Or.inl rfl) pe_int)
    (pss_cons (ps_for PassesOwn.never rfl (pi_tupK (K := K) rfl (pe_p (pe_fldK (K := K) rfl (pv 0) (by rfl)) T.cText (ok_Text_steps (K := K) T) (hr.mono (by decide)) pass0)) (pg_name (i := 3) sc_KeyReader_first_place.nd rfl (Or.inl rfl)) (pss_one (ps_if (pt_cmpR (eqK (K := K) rfl hr.units) (pe_ix (ixK (K := K) rfl) (pv 3) pe_int (fun _ _ => rfl)) pe_str (nomark _)) (pss_cons (ps_if (pt_cmpR op_lt (pv 1) (pe_callB (lenK (K := K) rfl) rfl T.n_len (by decide +kernel) (pa_cons (pe_ix (ixK (K := K) rfl) (pv 3) pe_int (fun _ _ => rfl)) pa_nil)) (nomark _)) (pss_one (ps_ret (pe_op (addK (K := K) rfl) (pv 2) (pv 1))))
    pss_nil)
    (pss_cons (ps_aug (i := 1) sc_KeyReader_first_place.nd rfl (Or.inl rfl) (pe_callB (lenK (K := K) rfl) rfl T.n_len (by decide +kernel) (pa_cons (pe_ix (ixK (K := K) rfl) (pv 3) pe_int (fun _ _ => rfl)) pa_nil)) ip_sub)
    (pss_one (ps_aug (i := 2) sc_KeyReader_first_place.nd rfl (Or.inl rfl) (pe_callB (lenK (K := K) rfl) rfl T.n_len (by decide +kernel) (pa_cons (pe_ix (ixK (K := K) rfl) (pv 3) pe_int (fun _ _ => rfl)) pa_nil)) ip_add))))
    (pss_one (ps_aug (i := 2) sc_KeyReader_first_place.nd rfl (Or.inl rfl) (pe_op oMul (pe_op (addK (K := K) rfl) (pe_op op_sub (pe_ix (ixK (K := K) rfl) (pv 3) pe_int (fun _ _ => rfl)) (pe_ix (ixK (K := K) rfl) (pv 3) pe_int (fun _ _ => rfl))) pe_int) (pe_ix (ixK (K := K) rfl) (pv 3) pe_int (fun _ _ => rfl))) ip_add)))))
    (pss_one (ps_ret (pv 2))))), ?_⟩
    refine rd_startE (show start N_KeyReader_first_place [.ref x, .int (k : Nat)] = [some (.ref x), some (.int (k : Nat)), none, none] from rfl) ?_
    have nk := r.ok
    walk_at "rd_hid1"
    refine rd_fld_at r.ins T.cKeyReader T.na_KeyReader_source_text rdF_text ?_
    have few := r.tx.few
    have ok := r.tx.ok
    have sle := sz_le ok
    have tx := r.tx
    walk_at "rd_hid1"
    intro sp ⟨ms, h1, h2⟩
    refine ⟨_, rfl, ⟨_, h1⟩, for_tup (xs := ms) (fun j σ H' => ∃ v3, ∃ n k' : Nat, σ = [some (.ref x), some (.int (k' : Nat)), some (.int (n : Nat)), v3] ∧ H' = H ∧ k' < (tyL (ss.drop j)).length ∧ fstP ss k = n + fstP (ss.drop j) k') ⟨_, 0, k, rfl, rfl, by simpa using hk, by simp⟩ (fun j σ H' _ ⟨_, _, _, _, e, _⟩ => e ▸ h1) ?_ ?_⟩
    · rintro j v σ H' hv ⟨v3, n, k', rfl, rfl, hk', hf⟩
      obtain ⟨s', hs, a', rfl, hq⟩ := h2.at hv
      obtain ⟨ok', ok2⟩ := ok_at ok hs
      have ed : ss.drop j = s' :: ss.drop (j + 1) := by
        have hl := (List.getElem?_eq_some_iff.mp hs)
        obtain ⟨h3, h4⟩ := hl
        rw [List.drop_eq_getElem_cons h3, h4]
      rw [ed] at hk' hf
      walk_at "rd_hid1"
      cases s' with
      | wr w =>
        have wz : w.length ≤ sizeLine := str_small ok'.2.1
        have hl : (tyL (.wr w :: ss.drop (j + 1))).length = w.length + (tyL (ss.drop (j + 1))).length := by
          rw [show tyL (.wr w :: ss.drop (j + 1)) = ty1 (.wr w) ++ tyL (ss.drop (j + 1)) from rfl, List.length_append]; rfl
        rw [hl] at hk'
        have hf' : fstP ss k = n + (if k' < w.length then k' else w.length + fstP (ss.drop (j + 1)) (k' - w.length)) := hf
        refine rd_ixT ?_ hq rfl
        walk_at "rd_hid1"
        refine rd_ixT ?_ hq rfl
        walk_at "rd_hid1"
        refine rd_len_str wz ?_
        walk_at "rd_hid1"
        refine rd_ite (fun h3 => ?_) (fun h3 => ?_)
        · rw [if_pos (by omega)] at hf'
          walk_at "rd_hid1"
          have := q _ (Same.refl _)
          rw [hf', show ((n + k' : Nat) : Int) = (n : Int) + k' by omega] at this
          exact this
        · rw [if_neg (by omega)] at hf'
          walk_at "rd_hid1"
          refine rd_ixT ?_ hq rfl
          walk_at "rd_hid1"
          refine rd_len_str wz ?_
          walk_at "rd_hid1"
          refine rd_ixT ?_ hq rfl
          walk_at "rd_hid1"
          refine rd_len_str wz ?_
          walk_at "rd_hid1"
          exact ⟨_, n + w.length, k' - w.length, by rw [show ((k' - w.length : Nat) : Int) = (k' : Int) - (w.length : Nat) by omega, show ((n + w.length : Nat) : Int) = (n : Int) + (w.length : Nat) by omega]; rfl, rfl, by omega, by rw [hf', Nat.add_assoc]⟩
      | pa f1 l1 t1 =>
        have hf' : fstP ss k = n + ((l1 + 1 - f1) * t1 + fstP (ss.drop (j + 1)) k') := hf
        refine rd_ixT ?_ hq rfl
        walk_at "rd_hid1"
        have l1ok : (l1 + 1 - f1) * t1 ≤ 1000000000000000000 := by
          have : len1 (.pa f1 l1 t1) = (l1 - f1 + 1) * t1 := rfl
          have h5 := ok'.1
          rw [this, show l1 - f1 + 1 = l1 + 1 - f1 by omega] at ok2
          omega
        obtain ⟨h5, h6, h7, h8⟩ := ok'
        have h9 : l1 < 1000000000000000000 := by
          have := sz_le (ok_take (j := j) ok)
          omega
        refine rd_ixT ?_ hq rfl
        walk_at "rd_hid1"
        refine rd_ixT ?_ hq rfl
        walk_at "rd_hid1"
        refine rd_ixT ?_ hq rfl
        walk_at "rd_hid1"
        refine rd_mul_int (Or.inl ⟨by omega, by omega⟩) ?_
        walk_at "rd_hid1"
        refine ⟨some (.ref a'), n + (l1 + 1 - f1) * t1, k', ?_, rfl, by simpa [tyL, ty1] using hk', by rw [hf', Nat.add_assoc]⟩
        rw [show (((n + (l1 + 1 - f1) * t1 : Nat)) : Int) = (n : Int) + ((l1 : Int) - f1 + 1) * t1 by
          rw [Int.natCast_add, Int.natCast_mul, show ((l1 + 1 - f1 : Nat) : Int) = (l1 : Int) - f1 + 1 by omega]]
        rfl
    · rintro σ H' ⟨v3, n, k', rfl, rfl, hk', hf⟩
      rw [List.drop_of_length_le (by rw [h2.1]; exact Nat.le_refl _)] at hk'
      exact absurd hk' (by simp [tyL])
end
section
variable {P : Program} {w : World} {K : PySem.W.Frag} {mg : Str → Option Value} {base : Heap} {CText CPart CKeyReader : Addr}
theorem ok_KeyReader_fewest_places (T : Txt K mg CText CPart CKeyReader) : MOk P w K mg base CX0 4 CKeyReader "fewest_places" (sp_KeyReader_fewest_places K CText CPart CKeyReader) := by
  refine T.d_KeyReader_fewest_places.ok sc_KeyReader_fewest_places (fun vs H Q E h => ?len) (fun f cdv A outer s H vs Q E hr h => ?_)
  case len => obtain ⟨x, h', d, ss, f, ls, ob, rfl, _⟩ := h; rfl
  · obtain ⟨x, hl, d, ss, f, ls, ob, rfl, ⟨i, r⟩, q⟩ := h
    refine ⟨_, (pss_cons (ps_set (i := 1) sc_KeyReader_fewest_places.nd rfl (Or.inl rfl) (pe_lst pa_nil))
    (pss_cons (ps_for PassesOwn.never rfl (pi_listK (K := K) rfl (pe_m0 (pv 0) T.cKeyReader (ok_KeyReader_open_heads (K := K) T) (hr.mono (by decide)) pass0)) (pg_name (i := 2) sc_KeyReader_fewest_places.nd rfl (Or.inl rfl)) (pss_one (ps_expr (pe_bmK (K := K) rfl PySem.F.plainAttrs_list PySem.F.slot_list_append PySem.F.type_list_append mt_append (pv 1) (pa_cons (pe_m (pv 0) T.cKeyReader (ok_KeyReader_first_place (K := K) T) (hr.mono (by decide)) pass0 (pa_cons (pv 2) pa_nil)) pa_nil)))))
    (pss_one (ps_ret (pe_callB (sortIK (K := K) rfl) rfl T.n_sorted (by decide +kernel) (pa_cons (pv 1) pa_nil)))))), ?_⟩
    refine rd_startE (show start N_KeyReader_fewest_places [.ref x] = [some (.ref x), none, none] from rfl) ?_
    have nk := r.ok
    walk_at "rd_hid1"
    intro l1 H1 S1 e1 n1
    have r1 := r.same S1
    walk_at "rd_hid1"
    refine ⟨x, hl, d, ss, f, ls, ob, rfl, ⟨i, r1⟩, fun H2 p2 S2 n2 e2 => ?_⟩
    have ne : l1 ≠ p2 := fun z => by subst z; rw [e1] at n2; cases n2
    have ol : (openH f ls (tyL ss).length).length ≤ (tyL ss).length := by
      have := List.length_filter_le (fun k => decide (f k = k) && (gL ls k).isNone) (List.range (tyL ss).length)
      rw [List.length_range] at this
      exact this
    obtain ⟨O, eO⟩ : ∃ O, openH f ls (tyL ss).length = O := ⟨_, rfl⟩
    have lt : ∀ k ∈ O, k < (tyL ss).length := fun k hk => openH_lt (eO ▸ hk)
    have asc := openH_asc f ls (tyL ss).length
    rw [eO] at e2 q ol asc
    refine ⟨p2, rfl, ⟨_, SqL.of e2⟩, for_list (xs := natV O) (fun j σ H' => ∃ v2, σ = [some (.ref x), some (.ref l1), v2] ∧ Same H H' ∧ H' p2 = some (.lst (natV O)) ∧ H' l1 = some (.lst (natV ((O.take j).map (fstP ss))))) ⟨_, rfl, S1.trans S2, e2, S2 _ _ e1⟩ (fun j σ H' _ ⟨_, _, _, e, _⟩ => SqL.of e) ?_ ?_⟩
    · rintro j v σ H' hv ⟨v2, rfl, S, e, el⟩
      obtain ⟨k, hk, rfl⟩ : ∃ k, O[j]? = some k ∧ V.int (k : Nat) = v := by
        unfold natV at hv
        rw [List.getElem?_map] at hv
        obtain ⟨k, h3, h4⟩ := Option.map_eq_some_iff.mp hv
        exact ⟨k, h3, h4⟩
      have r2 := r.same S
      walk_at "rd_hid1"
      refine rd_tyL (SqL.of el) _ ?_
      walk_at "rd_hid1"
      refine ⟨x, hl, d, ss, f, ls, ob, k, rfl, ⟨i, r2⟩, lt k (List.mem_of_getElem? hk), fun H3 S3 => ?_⟩
      walk_at "rd_hid1"
      have lk := (List.getElem?_eq_some_iff.mp hk).1
      refine rd_append (S3 _ _ el) (by rw [natV_len, List.length_map, List.length_take, sizeLine_eq]; omega) ?_
      refine ⟨_, rfl, Same.mut (S.trans S3) n1, by rw [upd_ne (Ne.symm ne)]; exact S3 _ _ e, ?_⟩
      rw [upd_same, take_snoc hk, List.map_append]
      unfold natV
      rw [List.map_append]; rfl
    · rintro σ H' ⟨v2, rfl, S, e, el⟩
      rw [List.take_of_length_le (by rw [natV_len]; exact Nat.le_refl _)] at el
      walk_at "rd_hid1"
      refine rd_sortNatN el (pw_map asc lt (fun a b h1 h2 => fstP_lt ss 0 r.tx.ok a b h1 h2)) fun p3 H3 S3 n3 e3 => ?_
      exact q _ p3 (S.trans S3) (Same.back S n3) e3
end
local macro_rules | `(tactic| walk_at "rd1_hid2") => `(tactic| walk_at "rd1_Fa")
local macro_rules | `(tactic| walk_at "rd_hid2") => `(tactic| repeat walk_at "rd1_hid2")
local macro_rules | `(tactic| walk_at "rdS_hid2") => `(tactic| repeat ((fail_if_success with_reducible show tIfS _ _ _ _ _ _); walk_at "rd1_hid2"))
local macro_rules | `(tactic| walk_at "rd1_hid2") => `(tactic| first
  | with_reducible refine rd_listRg ?_ | with_reducible refine rd_dsetd ?_
  | ((with_reducible refine' rd_insRd ?k1 ?k2 ?_); (case k1 => assumption); (case k2 => decide +kernel))
  | ((with_reducible refine' rd_rdHead ?k1 ?k2 ?_); (case k1 => assumption); (case k2 => omega)))
section
variable {P : Program} {w : World} {K : PySem.W.Frag} {mg : Str → Option Value} {base : Heap} {CText CPart CKeyReader : Addr}
theorem ok_KeyReader_getitem (T : Txt K mg CText CPart CKeyReader) : XOk P w K mg base CX0 3 (IOwn K CKeyReader) (sp_KeyReader_getitem K CText CPart CKeyReader) := by
  refine T.d_KeyReader_getitem.ok sc_KeyReader_getitem (fun vs H Q E h => ?len) (fun f cdv A outer s H vs Q E hr h => ?_)
  case len => obtain ⟨x, h', d, ss, f, ls, ob, p, rfl, _⟩ := h; rfl
  · obtain ⟨x, hl, d, ss, f, ls, ob, p, rfl, ⟨i, r⟩, hp, q⟩ := h
    refine ⟨_, (pss_one (ps_ret (pe_dget2 (hu_of hr) (pe_fldK (K := K) rfl (pv 0) (by rfl)) (pe_m (pv 0) T.cKeyReader (ok_KeyReader_head (K := K) T) (hr.mono (by decide)) pass0 (pa_cons (pe_m (pe_fldK (K := K) rfl (pv 0) (by rfl)) T.cText (ok_Text_key_of (K := K) T) (hr.mono (by decide)) pass0 (pa_cons (pv 1) pa_nil)) pa_nil)) pe_non ⟨rfl, rfl, rfl, rfl⟩))), ?_⟩
    refine rd_startE (show start N_KeyReader_getitem [.ref x, .int (p : Nat)] = [some (.ref x), some (.int (p : Nat))] from rfl) ?_
    have nk := r.ok
    have kl := kat_lt r.tx.ok hp
    have tx := r.tx
    walk_at "rd_hid2"
    refine rd_dget2 ?_
    walk_at "rd_hid2"
    refine rd_fld_at r.ins T.cKeyReader T.na_KeyReader_letters rdF_letters ?_
    refine ⟨_, rfl, .inl ⟨_, .inl r.dl⟩, ?_⟩
    walk_at "rd_hid2"
    refine rd_fld_at r.ins T.cKeyReader T.na_KeyReader_source_text rdF_text ?_
    walk_at "rd_hid2"
    refine rd_keyOf tx (by omega) (by omega) ?_
    rw [Int.toNat_natCast]
    walk_at "rd_hid2"
    refine ⟨_, kvM_dget r.dl (f (kat ss p)), ?_⟩
    have := q _ (Same.refl _)
    cases e : gL ls (f (kat ss p)) with
    | none => rw [e] at this; exact this
    | some c => rw [e] at this; exact this
end
section
variable {P : Program} {w : World} {K : PySem.W.Frag} {mg : Str → Option Value} {base : Heap} {CText CPart CKeyReader : Addr}
theorem ok_KeyReader_see_word (T : Txt K mg CText CPart CKeyReader) : MOk P w K mg base CX0 4 CKeyReader "see_word" (sp_KeyReader_see_word K CText CPart CKeyReader) := by
  refine T.d_KeyReader_see_word.ok sc_KeyReader_see_word (fun vs H Q E h => ?len) (fun f cdv A outer s H vs Q E hr h => ?_)
  case len => obtain ⟨x, h', d, ss, f, ls, ob, p, w, rfl, _⟩ := h; rfl
  · obtain ⟨x, hl, d, ss, f, ls, ob, p, wd, rfl, ⟨i, r⟩, hp, w1, w20, hw, okw, ho, q⟩ := h
    refine ⟨_, (pss_cons (ps_if (pt_not (pt_val (pe_g (ok_is_integer (K := K) T) (hr.mono (by decide)) pass0 (pa_cons (pv 1) (pa_cons pe_int (pa_cons (pe_p (pe_fldK (K := K) rfl (pv 0) (by rfl)) T.cText (ok_Text_size (K := K) T) (hr.mono (by decide)) pass0) pa_nil)))))) (pss_one ps_never)
    pss_nil)
    (pss_cons (ps_if (pt_not (pt_val (pe_g (ok_is_word (K := K) T) (hr.mono (by decide)) pass0 (pa_cons (pv 2) pa_nil)))) (pss_one ps_never)
    pss_nil)
    (pss_cons (ps_if (pt_cmpR op_gt (pe_op (addK (K := K) rfl) (pv 1) (pe_callB (lenK (K := K) rfl) rfl T.n_len (by decide +kernel) (pa_cons (pv 2) pa_nil))) (pe_p (pe_fldK (K := K) rfl (pv 0) (by rfl)) T.cText (ok_Text_size (K := K) T) (hr.mono (by decide)) pass0) (nomark _)) (pss_one ps_never)
    pss_nil)
    (pss_cons (ps_set (i := 3) sc_KeyReader_see_word.nd rfl (Or.inl rfl) (pe_callTy call_dictD rfl T.n_dict (by decide +kernel) (pa_cons (pe_fldK (K := K) rfl (pv 0) (by rfl)) pa_nil)))
    (pss_cons (ps_try0 (pss_one (ps_for PassesOwn.never rfl (pi_enumS rfl T.n_enumerate (pa_cons (pv 2) pa_nil)) (pg_tupK (K := K) (n := 2) rfl rfl (pgs_cons (pg_name (i := 4) sc_KeyReader_see_word.nd rfl (Or.inl rfl)) (pgs_cons (pg_name (i := 5) sc_KeyReader_see_word.nd rfl (Or.inl rfl)) pgs_nil))) (pss_one (ps_expr (pe_m (pv 0) T.cKeyReader (ok_KeyReader_accept_letter (K := K) T) (hr.mono (by decide)) pass0 (pa_cons (pe_oF (K := K) rfl (pv 0) (ok_Text_call (K := K) T) (hr.mono (by decide)) pass0 (pa_cons (pe_op (addK (K := K) rfl) (pv 1) (pv 4)) pa_nil)) (pa_cons (pv 5) pa_nil)))))))
    pss_nil)
    (pss_cons (ps_fld (pv 0) (pe_tup (pa_starK (K := K) rfl (pe_fldK (K := K) rfl (pv 0) (by rfl)) (pa_cons (pe_tup (pa_cons pe_str (pa_cons (pv 1) (pa_cons (pv 2) pa_nil)))) pa_nil))) rfl)
    (pss_one (ps_ret (pe_m0 (pv 0) T.cKeyReader (ok_KeyReader_known_count (K := K) T) (hr.mono (by decide)) pass0))))))))), ?_⟩
    refine rd_startE (show start N_KeyReader_see_word [.ref x, .int (p : Nat), .str (mkS wd)] = [some (.ref x), some (.int (p : Nat)), some (.str (mkS wd)), none, none, none] from rfl) ?_
    have nk := r.ok
    have tx := r.tx
    have sle := sz_le tx.ok
    walk_at "rd_hid2"
    refine rd_fld_at r.ins T.cKeyReader T.na_KeyReader_source_text rdF_text ?_
    walk_at "rd_hid2"
    refine rd_isIntT ⟨by omega, by omega⟩ ?_
    walk_at "rd_hid2"
    have lw : (mkS wd).length = wd.length := mkS_len wd
    have zw : (mkS wd).length ≤ sizeLine := by rw [lw, sizeLine_eq]; omega
    refine ⟨_, rfl, trivial, (fun x e => by cases e; exact zw), fun H1 S1 => ?_⟩
    rw [show isWd (.str (mkS wd)) = true from decide_eq_true (show 1 ≤ (tl (mkS wd)).length ∧ (tl (mkS wd)).length ≤ 20 ∧ ∀ c ∈ tl (mkS wd), 97 ≤ c ∧ c ≤ 122 from ⟨w1, w20, hw⟩)]
    have r1 := r.same S1
    have tx1 := r1.tx
    walk_at "rd_hid2"
    refine rd_fld_at r1.ins T.cKeyReader T.na_KeyReader_source_text rdF_text ?_
    walk_at "rd_hid2"
    refine rd_fld_at r1.ins T.cKeyReader T.na_KeyReader_letters rdF_letters ?_
    walk_at "rd_hid2"
    refine ⟨d, _, rfl, .inl r1.dl, fun kd nkd => ?_⟩
    have S2 : Same H1 (upd H1 kd (.dK (kvM ls))) := Same.new (Same.refl _) nkd
    revert S2
    generalize upd H1 kd (.dK (kvM ls)) = H2
    intro S2
    have r2 := r1.same S2
    walk_at "rd_hid2"
    refine rd_try0 ?_
    walk_at "rd_hid2"
    refine rd_iEnumS ?_
    walk_at "rd_hid2"
    refine ⟨mkS wd, rfl, for_pair (n := wd.length) (it := fun i => [.int (i : Nat), .str ⟨#[wd[i]?.getD 0]⟩]) (fun j σ H' => ∃ v4 v5, σ = [some (.ref x), some (.int (p : Nat)), some (.str (mkS wd)), some (.ref kd), v4, v5] ∧ Bt [x, hl, d] H2 H' ∧ Reader K CText CPart CKeyReader H' x hl d ss f (lsW f ss p (wd.take j) ls) ob) ⟨_, _, rfl, Bt.refl, ⟨i, r2⟩⟩ (fun j σ H' _ _ => pairy_es) ?_ ?_⟩
    · rintro j Tu σ H' hj ⟨v4, v5, rfl, B, R⟩ hT
      refine rd_gtup (SqT.of upd_same) rfl ?_
      have S3 : Same H' (upd H' Tu (.tup [.int (j : Nat), .str ⟨#[wd[j]?.getD 0]⟩])) := Same.new (Same.refl _) hT
      revert S3
      generalize upd H' Tu _ = H3
      intro S3
      obtain ⟨i3, r3⟩ := R.same S3
      have hc : wd[j]? = some (wd[j]?.getD 0) := by rw [List.getElem?_eq_getElem hj]; rfl
      revert hc
      generalize wd[j]?.getD 0 = c
      intro hc
      have hcl := hw c (List.mem_of_getElem? hc)
      have tx3 := r3.tx
      walk_at "rd_hid2"
      refine rd_oF ?_
      walk_at "rd_hid2"
      refine rd_fld_at r3.ins T.cKeyReader T.na_KeyReader_source_text rdF_text ?_
      refine ⟨_, rfl, ?_⟩
      walk_at "rd_hid2"
      rw [show ((p : Int) + (j : Nat)).toNat = p + j by omega]
      refine ⟨x, hl, d, ss, f, _, ob, kat ss (p + j), c, rfl, ⟨_, r3⟩, kat_lt tx.ok (by omega), hcl.1, hcl.2, okW_at okw hc, fun H4 b4 R4 => ?_⟩
      walk_at "rd_hid2"
      refine ⟨_, _, rfl, (B.trans (.same S3)).trans (Bt.but b4 (by simp)), ?_⟩
      rw [take_snoc hc, lsW_snoc, List.length_take, Nat.min_eq_left (Nat.le_of_lt hj)]
      exact R4
    · rintro σ H' ⟨v4, v5, rfl, B, R⟩
      rw [List.take_length] at R
      obtain ⟨i3, r3⟩ := R
      walk_at "rd_hid2"
      refine rd_fld_at r3.ins T.cKeyReader T.na_KeyReader_seen rdF_seen ?_
      refine ⟨i3.s, i3.sm, rfl, .inl r3.sn, ?_⟩
      walk_at "rd_hid2"
      intro q4 H4 S4 e4 _
      have r4 := r3.same S4
      have lo := r3.obs.1
      walk_at "rd_hid2"
      refine rd_new (by rw [sizeLine_eq, List.length_append, List.length_singleton]; omega) fun q5 H5 S5 e5 _ => ?_
      have r5 := r4.same S5
      walk_at "rd_hid2"
      refine rd_edset r5.ins T.cKeyReader T.na_KeyReader_seen rdF_len fun H6 b6 e6 => ?_
      rw [rdF_put] at e6
      have r6 := r5.seen T.ne_Text_KeyReader T.ne_Part_KeyReader b6 e6 (SqT.of e5) (r5.obs.snoc (o := .word p wd) (SqT.of (S5 _ _ e4)))
      have B6 : Bt [x, hl, d] H H6 := (((Bt.same (S1.trans S2)).trans B).trans (.same (S4.trans S5))).trans (Bt.but b6 (by simp))
      walk_at "rd_hid2"
      exact ⟨x, hl, d, ss, f, _, _, rfl, ⟨_, r6⟩, fun H7 S7 => q _ (B6.trans (.same S7)) ⟨_, r6.same S7⟩⟩
end
section
variable {P : Program} {w : World} {K : PySem.W.Frag} {mg : Str → Option Value} {base : Heap} {CText CPart CKeyReader : Addr}
theorem ok_KeyReader_count_texts (T : Txt K mg CText CPart CKeyReader) : MOk P w K mg base CX0 2 CKeyReader "count_texts" (sp_KeyReader_count_texts K CText CPart CKeyReader) := by
  refine T.d_KeyReader_count_texts.ok sc_KeyReader_count_texts (fun vs H Q E h => ?len) (fun f cdv A outer s H vs Q E hr h => ?_)
  case len => obtain ⟨x, h', d, ss, f, ls, ob, rfl, _⟩ := h; rfl
  · obtain ⟨x, hl, d, ss, f, ls, ob, rfl, ⟨i, r⟩, q⟩ := h
    obtain ⟨t_LETTERS, h_LETTERS⟩ := T.k_LETTERS; refine ⟨_, (pss_cons (ps_set (i := 1) sc_KeyReader_count_texts.nd rfl (Or.inl rfl) pe_int)
    (pss_cons (ps_for PassesOwn.never rfl (pi_listK (K := K) rfl (pe_m0 (pv 0) T.cKeyReader (ok_KeyReader_open_heads (K := K) T) (hr.mono (by decide)) pass0)) (pg_name (i := 2) sc_KeyReader_count_texts.nd rfl (Or.inl rfl)) (pss_one (ps_aug (i := 1) sc_KeyReader_count_texts.nd rfl (Or.inl rfl) (pe_callB (lenK (K := K) rfl) rfl T.n_len (by decide +kernel) (pa_cons (pe_glob (v := .str "abcdefghijklmnopqrstuvwxyz") rfl h_LETTERS ⟨_, rfl⟩) pa_nil)) ip_mul)))
    (pss_one (ps_ret (pv 1))))), ?_⟩
    refine rd_startE (show start N_KeyReader_count_texts [.ref x] = [some (.ref x), none, none] from rfl) ?_
    have nk := r.ok
    walk_at "rd_hid2"
    refine ⟨x, hl, d, ss, f, ls, ob, rfl, ⟨i, r⟩, fun H1 p1 S1 n1 e1 => ?_⟩
    refine ⟨p1, rfl, ⟨_, SqL.of e1⟩, for_list (xs := natV (openH f ls (tyL ss).length)) (fun j σ H' => ∃ v2, σ = [some (.ref x), some (.int (26 ^ j : Nat)), v2] ∧ H' = H1) ⟨_, rfl, rfl⟩ (fun j σ H' _ ⟨_, _, e⟩ => e ▸ SqL.of e1) ?_ ?_⟩
    · rintro j v σ H' hv ⟨v2, rfl, rfl⟩
      walk_at "rd_hid2"
      refine rd_len_str (by rw [sizeLine_eq]; decide +kernel) ?_
      rw [show ((Str.ofString "abcdefghijklmnopqrstuvwxyz").length : Nat) = 26 by decide +kernel]
      refine rd_I (Or.inr ⟨by decide, by decide⟩) ?_
      refine ⟨some v, ?_, rfl⟩
      rw [show ((26 ^ (j + 1) : Nat) : Int) = ((26 ^ j : Nat) : Int) * ((26 : Nat) : Int) by rw [Nat.pow_succ, Int.natCast_mul]]
      rfl
    · rintro σ H' ⟨v2, rfl, rfl⟩
      rw [natV_len]
      walk_at "rd_hid2"
      exact q _ S1
end
section
variable {P : Program} {w : World} {K : PySem.W.Frag} {mg : Str → Option Value} {base : Heap} {CText CPart CKeyReader : Addr}
theorem ok_KeyReader_hear_alike (T : Txt K mg CText CPart CKeyReader) : MOk P w K mg base CX0 4 CKeyReader "hear_alike" (sp_KeyReader_hear_alike K CText CPart CKeyReader) := by
  refine T.d_KeyReader_hear_alike.ok sc_KeyReader_hear_alike (fun vs H Q E h => ?len) (fun f cdv A outer s H vs Q E hr h => ?_)
  case len => obtain ⟨x, h', d, ss, f, ls, ob, p, q, rfl, _⟩ := h; rfl
  · obtain ⟨x, hl, d, ss, f, ls, ob, p, p2, rfl, ⟨i, r⟩, hp, hp2, hc, ho, q⟩ := h
    refine ⟨_, (pss_cons (ps_par (i := 3) (j := 4) rfl sc_KeyReader_hear_alike.nd rfl rfl (by decide) rfl rfl (pa_cons (pe_m (pv 0) T.cKeyReader (ok_KeyReader_head (K := K) T) (hr.mono (by decide)) pass0 (pa_cons (pe_oF (K := K) rfl (pv 0) (ok_Text_call (K := K) T) (hr.mono (by decide)) pass0 (pa_cons (pv 1) pa_nil)) pa_nil)) (pa_cons (pe_m (pv 0) T.cKeyReader (ok_KeyReader_head (K := K) T) (hr.mono (by decide)) pass0 (pa_cons (pe_oF (K := K) rfl (pv 0) (ok_Text_call (K := K) T) (hr.mono (by decide)) pass0 (pa_cons (pv 2) pa_nil)) pa_nil)) pa_nil)) rfl)
    (pss_cons (ps_asg (pe_ifExp (pt_cmpR op_lt (pv 3) (pv 4) (nomark _)) (pe_tup (pa_cons (pv 3) (pa_cons (pv 4) pa_nil))) (pe_tup (pa_cons (pv 4) (pa_cons (pv 3) pa_nil)))) (pg_tupK (K := K) (n := 2) rfl rfl (pgs_cons (pg_name (i := 5) sc_KeyReader_hear_alike.nd rfl (Or.inl rfl)) (pgs_cons (pg_name (i := 6) sc_KeyReader_hear_alike.nd rfl (Or.inl rfl)) pgs_nil))))
    (pss_cons (ps_if (PW.pt (pw_and (pt_cmp (pc_din (hu_of hr) (pv 5) (pe_fldK (K := K) rfl (pv 0) (by rfl)))) (pw_and (pt_cmp (pc_din (hu_of hr) (pv 6) (pe_fldK (K := K) rfl (pv 0) (by rfl)))) (pw_and1 (pt_cmpR (neK (K := K) rfl hr.units) (pe_dget (hu_of hr) (pe_fldK (K := K) rfl (pv 0) (by rfl)) (pv 5) (fun _ _ => rfl)) (pe_dget (hu_of hr) (pe_fldK (K := K) rfl (pv 0) (by rfl)) (pv 6) (fun _ _ => rfl)) (nomark _)))))) (pss_one ps_never)
    pss_nil)
    (pss_cons (ps_if (pt_cmp (pc_din (hu_of hr) (pv 6) (pe_fldK (K := K) rfl (pv 0) (by rfl)))) (pss_one (ps_dput (hu_of hr) (pe_fldK (K := K) rfl (pv 0) (by rfl)) (pv 5) (pe_dget (hu_of hr) (pe_fldK (K := K) rfl (pv 0) (by rfl)) (pv 6) (fun _ _ => rfl)) rfl))
    pss_nil)
    (pss_cons (ps_asg (pv 5) (pg_sub (pe_fldK (K := K) rfl (pv 0) (by rfl)) (pv 6) set_list))
    (pss_cons (ps_fld (pv 0) (pe_tup (pa_starK (K := K) rfl (pe_fldK (K := K) rfl (pv 0) (by rfl)) (pa_cons (pe_tup (pa_cons pe_str (pa_cons (pv 1) (pa_cons (pv 2) pa_nil)))) pa_nil))) rfl)
    (pss_one (ps_ret (pe_m0 (pv 0) T.cKeyReader (ok_KeyReader_count_texts (K := K) T) (hr.mono (by decide)) pass0))))))))), ?_⟩
    refine rd_startE (show start N_KeyReader_hear_alike [.ref x, .int (p : Nat), .int (p2 : Nat)] = [some (.ref x), some (.int (p : Nat)), some (.int (p2 : Nat)), none, none, none, none] from rfl) ?_
    have nk := r.ok
    have tx := r.tx
    have ka := kat_lt tx.ok hp
    have kb := kat_lt tx.ok hp2
    walk_at "rd_hid2"
    refine rd_oF ?_
    walk_at "rd_hid2"
    refine rd_fld_at r.ins T.cKeyReader T.na_KeyReader_source_text rdF_text ?_
    refine ⟨_, rfl, ?_⟩
    walk_at "rd_hid2"
    rw [Int.toNat_natCast]
    walk_at "rd_hid2"
    refine rd_oF ?_
    walk_at "rd_hid2"
    refine rd_fld_at r.ins T.cKeyReader T.na_KeyReader_source_text rdF_text ?_
    refine ⟨_, rfl, ?_⟩
    walk_at "rd_hid2"
    rw [Int.toNat_natCast]
    obtain ⟨a1, a2, a3⟩ := r.spec ka
    obtain ⟨b1, b2, b3⟩ := r.spec kb
    generalize hka : kat ss p = a at *
    generalize hkb : kat ss p2 = b at *
    walk_at "rd_hid2"
    refine rd_ifJ (fun v H' => ∃ q, v = .ref q ∧ Same H H' ∧ H' q = some (.tup [.int (min (f a) (f b) : Nat), .int (max (f a) (f b) : Nat)])) ?_ fun R hR => ?_
    · rintro v H1 ⟨q1, rfl, S1, e1⟩
      refine rd_gtup (SqT.of e1) rfl ?_
      have r1 := r.same S1
      obtain ⟨m, hm, hm1, hm2⟩ : ∃ m, min (f a) (f b) = m ∧ m < (tyL ss).length ∧ (m = f a ∨ m = f b) := ⟨_, rfl, by omega, by omega⟩
      obtain ⟨M, hM, hM1, hM2⟩ : ∃ M, max (f a) (f b) = M ∧ M < (tyL ss).length ∧ ((M = f a ∧ m = f b) ∨ (M = f b ∧ m = f a)) := ⟨_, rfl, by omega, by omega⟩
      have hcc : ∀ c c', gL ls m = some c → gL ls M = some c' → c = c' := fun c c' h1 h2 => by
        rcases hM2 with ⟨e1, e2⟩ | ⟨e1, e2⟩
        · rw [e1] at h2; rw [e2] at h1; exact (hc c' c h2 h1).symm
        · rw [e1] at h2; rw [e2] at h1; exact hc c c' h1 h2
      have hear : hearL f ls a b = match gL ls M with | some c => putL ls m c | none => ls := by unfold hearL; rw [hm, hM] <;> cases gL ls M <;> rfl
      rw [hm, hM]
      walk_at "rdS_hid2"
      refine rd_ifAndJ (fun Hc => Hc = H1) ?_ fun hq => ?_
      · rintro Hc rfl
        walk_at "rdS_hid2"
        refine rd_ifSJ (fun σ' Hc => σ' = [some (.ref x), some (.int (p : Nat)), some (.int (p2 : Nat)), some (.int (f a : Nat)), some (.int (f b : Nat)), some (.int (m : Nat)), some (.int (M : Nat))] ∧ Bt [x, hl, d] H Hc ∧ RdAt K CText CPart CKeyReader Hc x hl d ss f (hearL f ls a b) ob i) ?_ fun nx' hnx => ?_
        · rintro σ' Hc' ⟨rfl, B2, r2⟩
          have hn := r2.len
          walk_at "rd_hid2"
          refine rd_fld_at r2.ins T.cKeyReader T.na_KeyReader_heads rdF_heads ?_
          walk_at "rd_hid2"
          refine rd_setL r2.hl (j := M) (by rw [natV_len]; exact ixN_natx (by omega)) ?_
          have es : (natV i.hs).set M (.int (m : Nat)) = natV (i.hs.set M m) := by unfold natV; rw [List.map_set]
          rw [es]
          have r3 := r2.tie T.ne_Text_KeyReader T.ne_Part_KeyReader ka kb
          rw [hM, hm] at r3
          have B3 : Bt [x, hl, d] H (upd Hc' hl (.lst (natV (i.hs.set M m)))) := B2.trans (Bt.but (But.at But.refl) (by simp))
          revert r3 B3
          generalize upd Hc' hl (.lst (natV (i.hs.set M m))) = H3
          intro r3 B3
          walk_at "rd_hid2"
          refine rd_fld_at r3.ins T.cKeyReader T.na_KeyReader_seen rdF_seen ?_
          refine ⟨i.s, i.sm, rfl, .inl r3.sn, ?_⟩
          walk_at "rd_hid2"
          intro q4 H4 S4 e4 _
          have r4 := r3.same S4
          have lo := r3.obs.1
          have lo : i.sm.length = ob.length := lo
          walk_at "rd_hid2"
          refine rd_new (by rw [sizeLine_eq, List.length_append, List.length_singleton]; omega) fun q5 H5 S5 e5 _ => ?_
          have r5 := r4.same S5
          walk_at "rd_hid2"
          refine rd_edset r5.ins T.cKeyReader T.na_KeyReader_seen rdF_len fun H6 b6 e6 => ?_
          rw [rdF_put] at e6
          have r6 := r5.seen T.ne_Text_KeyReader T.ne_Part_KeyReader b6 e6 (SqT.of e5) (r5.obs.snoc (o := .alike p p2) (SqT.of (S5 _ _ e4)))
          have B6 : Bt [x, hl, d] H H6 := (B3.trans (.same (S4.trans S5))).trans (Bt.but b6 (by simp))
          walk_at "rd_hid2"
          exact ⟨x, hl, d, ss, _, _, _, rfl, ⟨_, r6⟩, fun H7 S7 => q _ (B6.trans (.same S7)) ⟨_, r6.same S7⟩⟩
        · walk_at "rd_hid2"
          refine rd_din ?_
          walk_at "rd_hid2"
          refine rd_fld_at r1.ins T.cKeyReader T.na_KeyReader_letters rdF_letters ?_
          refine ⟨d, _, rfl, kvM_dget r1.dl M, ?_⟩
          walk_at "rd_hid2"
          cases eM : gL ls M with
          | none =>
            rw [eM] at hear
            refine rd_cF rfl ?_
            walk_at "rd_hid2"
            exact hnx _ _ ⟨rfl, Bt.same S1, by rw [hear]; exact r1⟩
          | some cM =>
            rw [eM] at hear
            have lt := r.lok.let eM
            refine rd_cT rfl ?_
            walk_at "rd_hid2"
            refine rd_dput ?_
            walk_at "rd_hid2"
            refine rd_dget ?_
            walk_at "rd_hid2"
            refine rd_fld_at r1.ins T.cKeyReader T.na_KeyReader_letters rdF_letters ?_
            walk_at "rd_hid2"
            refine ⟨d, .str ⟨#[cM]⟩, rfl, ?_, ?_⟩
            · have := kvM_dget r1.dl M
              rw [eM] at this
              exact this
            walk_at "rd_hid2"
            refine rd_fld_at r1.ins T.cKeyReader T.na_KeyReader_letters rdF_letters ?_
            walk_at "rd_hid2"
            have ll := r.lok.len
            exact ⟨d, _, rfl, kvM_dput r1.dl (by omega) m cM, hnx _ _ ⟨rfl, (Bt.same S1).trans (Bt.but (But.at But.refl) (by simp)), by rw [hear]; exact r1.put T.ne_Text_KeyReader T.ne_Part_KeyReader hm1 lt.2.1 lt.2.2⟩⟩
      · walk_at "rd_hid2"
        refine rd_din ?_
        walk_at "rd_hid2"
        refine rd_fld_at r1.ins T.cKeyReader T.na_KeyReader_letters rdF_letters ?_
        refine ⟨d, _, rfl, kvM_dget r1.dl m, ?_⟩
        walk_at "rd_hid2"
        cases em : gL ls m with
        | none =>
          refine rd_cF rfl ?_
          walk_at "rdS_hid2"
          exact hq _ rfl
        | some cm =>
          refine rd_cT rfl ?_
          walk_at "rd_hid2"
          refine rd_din ?_
          walk_at "rd_hid2"
          refine rd_fld_at r1.ins T.cKeyReader T.na_KeyReader_letters rdF_letters ?_
          refine ⟨d, _, rfl, kvM_dget r1.dl M, ?_⟩
          walk_at "rd_hid2"
          cases eM : gL ls M with
          | none =>
            refine rd_cF rfl ?_
            walk_at "rdS_hid2"
            exact hq _ rfl
          | some cM =>
            have ecc := hcc _ _ em eM
            subst ecc
            refine rd_cT rfl ?_
            walk_at "rd_hid2"
            refine rd_dget ?_
            walk_at "rd_hid2"
            refine rd_fld_at r1.ins T.cKeyReader T.na_KeyReader_letters rdF_letters ?_
            walk_at "rd_hid2"
            refine ⟨d, .str ⟨#[cm]⟩, rfl, ?_, ?_⟩
            · have := kvM_dget r1.dl m
              rw [em] at this
              exact this
            walk_at "rd_hid2"
            refine rd_dget ?_
            walk_at "rd_hid2"
            refine rd_fld_at r1.ins T.cKeyReader T.na_KeyReader_letters rdF_letters ?_
            walk_at "rd_hid2"
            refine ⟨d, .str ⟨#[cm]⟩, rfl, ?_, ?_⟩
            · have := kvM_dget r1.dl M
              rw [eM] at this
              exact this
            walk_at "rdS_hid2"
            exact hq _ rfl
    · rcases Nat.lt_or_ge (f a) (f b) with z | z
      · refine rd_dT (by omega) ?_
        walk_at "rd_hid2"
        intro q1 H1 S1 e1 _
        exact hR _ _ ⟨q1, rfl, S1, by rw [Nat.min_eq_left (by omega), Nat.max_eq_right (by omega)]; exact e1⟩
      · refine rd_dF (by omega) ?_
        walk_at "rd_hid2"
        intro q1 H1 S1 e1 _
        exact hR _ _ ⟨q1, rfl, S1, by rw [Nat.min_eq_right z, Nat.max_eq_left z]; exact e1⟩
end
section
variable {P : Program} {w : World} {K : PySem.W.Frag} {mg : Str → Option Value} {base : Heap} {CText CPart CKeyReader : Addr}
theorem ok_KeyReader_is_surely_alike (T : Txt K mg CText CPart CKeyReader) : MOk P w K mg base CX0 4 CKeyReader "is_surely_alike" (sp_KeyReader_is_surely_alike K CText CPart CKeyReader) := by
  refine T.d_KeyReader_is_surely_alike.ok sc_KeyReader_is_surely_alike (fun vs H Q E h => ?len) (fun f cdv A outer s H vs Q E hr h => ?_)
  case len => obtain ⟨x, h', d, ss, f, ls, ob, p, q, rfl, _⟩ := h; rfl
  · obtain ⟨x, hl, d, ss, f, ls, ob, p, p2, rfl, ⟨i, r⟩, hp, hp2, q⟩ := h
    refine ⟨_, (pss_cons (ps_par (i := 3) (j := 4) rfl sc_KeyReader_is_surely_alike.nd rfl rfl (by decide) rfl rfl (pa_cons (pe_m (pv 0) T.cKeyReader (ok_KeyReader_head (K := K) T) (hr.mono (by decide)) pass0 (pa_cons (pe_oF (K := K) rfl (pv 0) (ok_Text_call (K := K) T) (hr.mono (by decide)) pass0 (pa_cons (pv 1) pa_nil)) pa_nil)) (pa_cons (pe_m (pv 0) T.cKeyReader (ok_KeyReader_head (K := K) T) (hr.mono (by decide)) pass0 (pa_cons (pe_oF (K := K) rfl (pv 0) (ok_Text_call (K := K) T) (hr.mono (by decide)) pass0 (pa_cons (pv 2) pa_nil)) pa_nil)) pa_nil)) rfl)
    (pss_one (ps_ret (pe_or (pe_cmpR (eqK (K := K) rfl hr.units) (pv 3) (pv 4) (nomark _)) (pe_one (pe_and (pe_cmp (pc_din (hu_of hr) (pv 3) (pe_fldK (K := K) rfl (pv 0) (by rfl))) rfl) (pe_one (pe_cmpR (eqK (K := K) rfl hr.units) (pe_dget (hu_of hr) (pe_fldK (K := K) rfl (pv 0) (by rfl)) (pv 3) (fun _ _ => rfl)) (pe_dget2 (hu_of hr) (pe_fldK (K := K) rfl (pv 0) (by rfl)) (pv 4) pe_non ⟨rfl, rfl, rfl, rfl⟩) (nomark _))))))))), ?_⟩
    refine rd_startE (show start N_KeyReader_is_surely_alike [.ref x, .int (p : Nat), .int (p2 : Nat)] = [some (.ref x), some (.int (p : Nat)), some (.int (p2 : Nat)), none, none] from rfl) ?_
    have nk := r.ok
    have tx := r.tx
    have ka := kat_lt tx.ok hp
    have kb := kat_lt tx.ok hp2
    walk_at "rd_hid2"
    refine rd_oF ?_
    walk_at "rd_hid2"
    refine rd_fld_at r.ins T.cKeyReader T.na_KeyReader_source_text rdF_text ?_
    refine ⟨_, rfl, ?_⟩
    walk_at "rd_hid2"
    rw [Int.toNat_natCast]
    walk_at "rd_hid2"
    refine rd_oF ?_
    walk_at "rd_hid2"
    refine rd_fld_at r.ins T.cKeyReader T.na_KeyReader_source_text rdF_text ?_
    refine ⟨_, rfl, ?_⟩
    walk_at "rd_hid2"
    rw [Int.toNat_natCast]
    walk_at "rd_hid2"
    generalize hka : kat ss p = a at *
    generalize hkb : kat ss p2 = b at *
    unfold sureB at q
    refine rd_ite (fun z => ?_) (fun z => ?_)
    · have := q _ (Same.refl _)
      rw [decide_eq_true (show f a = f b by omega), Bool.true_or] at this
      exact this
    · have q1 := q _ (Same.refl _)
      rw [decide_eq_false (show ¬ f a = f b by omega), Bool.false_or] at q1
      walk_at "rd_hid2"
      refine rd_din ?_
      walk_at "rd_hid2"
      refine rd_fld_at r.ins T.cKeyReader T.na_KeyReader_letters rdF_letters ?_
      refine ⟨d, _, rfl, kvM_dget r.dl (f a), ?_⟩
      walk_at "rd_hid2"
      cases ea : gL ls (f a) with
      | none =>
        rw [ea] at q1
        refine rd_cF rfl ?_
        exact q1
      | some ca =>
        rw [ea] at q1
        refine rd_cT rfl ?_
        walk_at "rd_hid2"
        refine rd_dget ?_
        walk_at "rd_hid2"
        refine rd_fld_at r.ins T.cKeyReader T.na_KeyReader_letters rdF_letters ?_
        walk_at "rd_hid2"
        refine ⟨d, .str ⟨#[ca]⟩, rfl, ?_, ?_⟩
        · have := kvM_dget r.dl (f a)
          rw [ea] at this
          exact this
        walk_at "rd_hid2"
        refine rd_dget2 ?_
        walk_at "rd_hid2"
        refine rd_fld_at r.ins T.cKeyReader T.na_KeyReader_letters rdF_letters ?_
        refine ⟨_, rfl, .inl ⟨_, .inl r.dl⟩, ?_⟩
        walk_at "rd_hid2"
        refine ⟨_, kvM_dget r.dl (f b), ?_⟩
        cases eb : gL ls (f b) with
        | none =>
          rw [eb] at q1
          refine rd_eq_scal rfl ?_
          exact q1
        | some cb =>
          rw [eb] at q1
          show rEqA K (.str ⟨#[ca]⟩) (.str ⟨#[cb]⟩) H Q
          refine rd_eq_str ?_
          rw [show decide ((⟨#[ca]⟩ : Str) = ⟨#[cb]⟩) = decide (some ca = some cb) from decide_eq_decide.mpr ⟨fun z => by cases z; rfl, fun z => by cases z; rfl⟩]
          exact q1
end
section
variable {P : Program} {w : World} {K : PySem.W.Frag} {mg : Str → Option Value} {base : Heap} {CText CPart CKeyReader : Addr}
theorem ok_KeyReader_text_with (T : Txt K mg CText CPart CKeyReader) : MOk P w K mg base CX0 6 CKeyReader "text_with" (sp_KeyReader_text_with K CText CPart CKeyReader) := by
  refine T.d_KeyReader_text_with.ok sc_KeyReader_text_with (fun vs H Q E h => ?len) (fun f cdv A outer s H vs Q E hr h => ?_)
  case len => obtain ⟨x, h', d, ss, f, ls, ob, c, rfl, _⟩ := h; rfl
  · obtain ⟨x, hl, d, ss, f, ls, ob, c, rfl, ⟨i, r⟩, h1, h2, q⟩ := h
    refine ⟨_, (pss_cons (ps_if (pt_not (pt_val (pe_g (ok_is_letter (K := K) T) (hr.mono (by decide)) pass0 (pa_cons (pv 1) pa_nil)))) (pss_one ps_never)
    pss_nil)
    (pss_cons (ps_asg (pe_tup (pa_cons (pe_p (pv 0) T.cKeyReader (ok_KeyReader_known_letters (K := K) T) (hr.mono (by decide)) pass0) (pa_cons (pe_lst pa_nil) (pa_cons pe_int pa_nil)))) (pg_tupK (K := K) (n := 3) rfl rfl (pgs_cons (pg_name (i := 2) sc_KeyReader_text_with.nd rfl (Or.inr rfl)) (pgs_cons (pg_name (i := 3) sc_KeyReader_text_with.nd rfl (Or.inl rfl)) (pgs_cons (pg_name (i := 4) sc_KeyReader_text_with.nd rfl (Or.inr rfl)) pgs_nil)))))
    (pss_cons (ps_for PassesOwn.never rfl (pi_tupK (K := K) rfl (pe_p (pe_fldK (K := K) rfl (pv 0) (by rfl)) T.cText (ok_Text_steps (K := K) T) (hr.mono (by decide)) pass0)) (pg_name (i := 5) sc_KeyReader_text_with.nd rfl (Or.inl rfl)) (pss_one (ps_if (pt_cmpR (eqK (K := K) rfl hr.units) (pe_ix (ixK (K := K) rfl) (pv 5) pe_int (fun _ _ => rfl)) pe_str (nomark _)) (pss_cons (ps_set (i := 6) sc_KeyReader_text_with.nd rfl (Or.inl rfl) (pe_joinK (K := K) rfl pe_str (pe_lc (own := [("offset", 7)]) rfl sc_KeyReader_text_with.nd (pi_range1 rfl T.n_range (pa_cons (pe_callB (lenK (K := K) rfl) rfl T.n_len (by decide +kernel) (pa_cons (pe_ix (ixK (K := K) rfl) (pv 5) pe_int (fun _ _ => rfl)) pa_nil)) pa_nil)) (blkOk_by (own := [("offset", 7)]) (N := N_KeyReader_text_with) (sc := (defScope s_KeyReader_text_with)) (by first | decide +kernel | rfl)) (fun _ _ _ _ _ => (pg_name (i := 7) sc_KeyReader_text_with.nd rfl (Or.inl rfl))) (fun _ _ _ _ _ => pts_nil) (fun _ _ _ _ _ => (pe_dget2 (hu_of hr) (pv 2) (pe_op (addK (K := K) rfl) (pv 4) (pv 7)) (pv 1) ⟨rfl, rfl, rfl, rfl⟩)))))
    (pss_cons (ps_expr (pe_bmK (K := K) rfl PySem.F.plainAttrs_list PySem.F.slot_list_append PySem.F.type_list_append mt_append (pv 3) (pa_cons (pe_tup (pa_cons pe_str (pa_cons (pv 6) pa_nil))) pa_nil)))
    (pss_one (ps_aug (i := 4) sc_KeyReader_text_with.nd rfl (Or.inr rfl) (pe_callB (lenK (K := K) rfl) rfl T.n_len (by decide +kernel) (pa_cons (pv 6) pa_nil)) ip_add))))
    (pss_one (ps_expr (pe_bmK (K := K) rfl PySem.F.plainAttrs_list PySem.F.slot_list_append PySem.F.type_list_append mt_append (pv 3) (pa_cons (pv 5) pa_nil)))))))
    (pss_one (ps_ret (pe_ks (pe_glob (v := .ref CText) rfl T.g_Text rfl) (ok_Text_init (K := K) T) (hr.mono (by decide)) pass0 (pv 3))))))), ?_⟩
    refine rd_startE (show start N_KeyReader_text_with [.ref x, .str ⟨#[c]⟩] = [some (.ref x), some (.str ⟨#[c]⟩), none, none, none, none, none, none] from rfl) ?_
    have nk := r.ok
    have tx := r.tx
    walk_at "rd_hid2"
    refine rd_isLetter ⟨h1, h2⟩ ?_
    walk_at "rd_hid2"
    refine rd_rdKnownH ⟨i, r⟩ fun H1 dk S1 n1 e1 => ?_
    walk_at "rd_hid2"
    intro l2 H2 S2 e2 n2
    walk_at "rd_hid2"
    intro q3 H3 S3 e3 _
    refine rd_gtup (SqT.of e3) rfl ?_
    have S03 := (S1.trans S2).trans S3
    have r3 := r.same S03
    have tx3 := r3.tx
    walk_at "rd_hid2"
    refine rd_fld_at r3.ins T.cKeyReader T.na_KeyReader_source_text rdF_text ?_
    walk_at "rd_hid2"
    intro sp ⟨ms, h3, st⟩
    have ok := tx.ok
    have few := tx.few
    have n2' : H l2 = none := Same.back S1 n2
    refine ⟨_, rfl, ⟨_, h3⟩, for_tup (xs := ms) (fun j σ H' => ∃ (ys : List V) (v5 v6 v7 : Option V), σ = [some (.ref x), some (.str ⟨#[c]⟩), some (.ref dk), some (.ref l2), some (.int ((tyL (ss.take j)).length : Nat)), v5, v6, v7] ∧ Same H H' ∧ H' l2 = some (.lst ys) ∧ StepsAt K H' ys (withS (fun k => (gL ls (f k)).getD c) 0 (ss.take j)) ∧ H' dk = some (.dK (kvM (knownL f ls (tyL ss).length))) ∧ SqT K H' sp ms ∧ StepsAt K H' ms ss) ⟨[], _, _, _, rfl, S03, S3 _ _ e2, StepsAt.nil, S3 _ _ (S2 _ _ e1), h3, st⟩ (fun j σ H' _ z => by obtain ⟨_, _, _, _, _, _, _, _, _, h, _⟩ := z; exact h) ?_ ?_⟩
    · rintro j v σ H' hv ⟨ys, v5, v6, v7, rfl, S, el, sy, ek, h3', st'⟩
      obtain ⟨s', hs, a', rfl, hq⟩ := st'.at hv
      have hi : j < ss.length := (List.getElem?_eq_some_iff.mp hs).1
      have ok' := (ok_at ok hs).1
      have wt : withS (fun k => (gL ls (f k)).getD c) 0 (ss.take (j + 1)) = withS (fun k => (gL ls (f k)).getD c) 0 (ss.take j) ++ withS (fun k => (gL ls (f k)).getD c) (tyL (ss.take j)).length [s'] := by
        rw [take_snoc hs, withS_snoc, Nat.zero_add]
      have tyt := tyL_take hs
      have tyle : (tyL (ss.take (j + 1))).length ≤ (tyL ss).length := by
        have e : ss = ss.take (j + 1) ++ ss.drop (j + 1) := (List.take_append_drop _ _).symm
        conv => rhs; rw [e, tyL_append, List.length_append]
        omega
      have ndk : dk ≠ l2 := fun z => by rw [z, el] at ek; cases ek
      have ly : ys.length ≤ 30 := by rw [sy.1, withS_len, List.length_take]; omega
      walk_at "rd_hid2"
      cases s' with
      | wr w =>
        have w20 := ok'.2.1
        have wz : w.length ≤ sizeLine := str_small w20
        have lw := len_tl w
        have t1 : ty1 (.wr w) = tl w := rfl
        rw [tyt, List.length_append, t1, ← lw] at tyle
        refine rd_ixT ?_ hq rfl
        walk_at "rd_hid2"
        refine rd_ixT ?_ hq rfl
        walk_at "rd_hid2"
        refine rd_len_str wz ?_
        walk_at "rd_hid2"
        obtain ⟨N, hN⟩ : ∃ N, (tyL (ss.take j)).length = N := ⟨_, rfl⟩
        rw [hN] at wt tyle ⊢
        refine ⟨_, rfl, by omega, by omega, fun D hD => lc_fun (n := w.length) (it := fun i => .int (0 + (i : Nat))) (by rw [Int.toNat_natCast]; exact plain_rng) hD (by rw [sizeLine_eq]; omega) (fun _ => rfl) (fun i => .str ⟨#[(gL ls (f (N + i))).getD c]⟩) (fun i H4 Q4 hi S4 q4 => ?_) fun H4 S4 eD => ?_⟩
        · walk_at "rd_hid2"
          refine rd_dget2 ?_
          walk_at "rd_hid2"
          refine ⟨.inl ⟨_, .inl (S4 _ _ ek)⟩, ?_⟩
          walk_at "rd_hid2"
          rw [show (N : Int) + (0 + (i : Nat)) = ((N + i : Nat) : Int) by omega]
          refine ⟨_, kvM_dget (S4 _ _ ek) _, ?_⟩
          rw [knownL_get, if_pos (by omega)]
          have := q4 _ (Same.refl _)
          cases e : gL ls (f (N + i)) with
          | none => rw [e] at this; exact this
          | some c' => rw [e] at this; exact this
        · obtain ⟨W, hW⟩ : ∃ W, (List.range w.length).map (fun i => (gL ls (f (N + i))).getD c) = W := ⟨_, rfl⟩
          have lW : W.length = w.length := by rw [← hW, List.length_map, List.length_range]
          have eD' : H4 D = some (.lst (sgV W)) := by rw [eD, ← hW]; unfold sgV; rw [List.map_map]; rfl
          have zW : (mkS W).length ≤ sizeLine := by rw [mkS_len, sizeLine_eq]; omega
          walk_at "rd_hid2"
          refine rd_joinS eD' (by omega) ?_
          walk_at "rd_hid2"
          refine rd_tyL (SqL.of (S4 _ _ el)) _ ?_
          walk_at "rd_hid2"
          intro p5 H5 S5 e5 _
          walk_at "rd_hid2"
          have S45 := S4.trans S5
          have el5 := S45 _ _ el
          refine rd_append el5 (by rw [sizeLine_eq]; omega) ?_
          have B : But l2 H5 (upd H5 l2 (.lst (ys ++ [.ref p5]))) := But.at But.refl
          have fr := free1_lst el5
          walk_at "rd_hid2"
          refine ⟨_, some (.ref a'), some (.str (mkS W)), v7, ?_, Same.mut (S.trans S45) n2', upd_same, ?_, B _ _ ndk (S45 _ _ ek), B.tup fr (Same.tup S45 h3'), B.steps fr (st'.mono S45)⟩
          · rw [lW, show (tyL (ss.take (j + 1))).length = N + w.length by rw [tyt, List.length_append, t1, hN, lw], show ((N + w.length : Nat) : Int) = (N : Int) + (w.length : Nat) by omega]; rfl
          · rw [wt]
            refine (B.steps fr (sy.mono S45)).append (StepAt.one' ⟨p5, rfl, ?_⟩)
            have : stV (.wr (mkS W)) = [.str "write", .str (mkS W)] := rfl
            rw [hW, this]
            exact B.tup fr (SqT.of e5)
      | pa f1 l1 u1 =>
        refine rd_ixT ?_ hq rfl
        walk_at "rd_hid2"
        refine rd_tyL (SqL.of el) _ ?_
        walk_at "rd_hid2"
        refine rd_append el (by rw [sizeLine_eq]; omega) ?_
        have B : But l2 H' (upd H' l2 (.lst (ys ++ [.ref a']))) := But.at But.refl
        have fr := free1_lst el
        refine ⟨_, some (.ref a'), v6, v7, ?_, Same.mut S n2', upd_same, ?_, B _ _ ndk ek, B.tup fr h3', B.steps fr st'⟩
        · rw [show (tyL (ss.take (j + 1))).length = (tyL (ss.take j)).length by rw [tyt]; simp [ty1]]; rfl
        · rw [wt]
          exact (B.steps fr sy).append (StepAt.one' ⟨a', rfl, B.tup fr hq⟩)
    · rintro σ H' ⟨ys, v5, v6, v7, rfl, S, el, sy, ek, h3', st'⟩
      rw [st.1, List.take_length] at sy
      walk_at "rd_hid2"
      have okw := withS_ok (fun k => (gL ls (f k)).getD c) (tyL ss).length (fun k _ => by
        cases e : gL ls (f k) with
        | none => exact ⟨h1, h2⟩
        | some c' => exact (r.lok.let e).2) ss 0 0 ok (by omega)
      exact rd_mkS (.inr (SqL.of el)) (rd_mkText sy okw (by rw [withS_len]; exact few) fun x Hc z nx S2 T e => q x Hc (S.trans S2) ⟨z, T, e⟩)
end
section
variable {P : Program} {w : World} {K : PySem.W.Frag} {mg : Str → Option Value} {base : Heap} {CText CPart CKeyReader : Addr}
theorem ok_x_law_power (T : Txt K mg CText CPart CKeyReader) : GOk P w K mg base CX0 1 "_law_power" (sp_x_law_power ) := by
  refine T.d_x_law_power.ok sc_x_law_power (fun vs H Q E h => ?len) (fun f cdv A outer s H vs Q E hr h => ?_)
  case len => obtain ⟨n, m, rfl, _⟩ := h; rfl
  · obtain ⟨n, m, rfl, hn, hm, q⟩ := h
    refine ⟨_, (pss_cons (ps_set (i := 2) sc_x_law_power.nd rfl (Or.inl rfl) pe_int)
    (pss_cons (ps_for PassesOwn.never rfl (pi_range1 rfl T.n_range (pa_cons (pv 1) pa_nil)) (pg_name (i := 3) sc_x_law_power.nd rfl (Or.inl rfl)) (pss_one (ps_set (i := 2) sc_x_law_power.nd rfl (Or.inl rfl) (pe_op oMul (pv 2) (pv 0)))))
    (pss_one (ps_ret (pv 2))))), ?_⟩
    refine rd_startE (show start N_x_law_power [.int (n : Nat), .int (m : Nat)] = [some (.int (n : Nat)), some (.int (m : Nat)), none, none] from rfl) ?_
    walk_at "rd_Fa"
    refine ⟨_, rfl, by omega, by omega, for_range (n := m) (fun i σ H' => ∃ v3, σ = [some (.int (n : Nat)), some (.int (m : Nat)), some (.int (n ^ i : Nat)), v3] ∧ H' = H) ⟨_, rfl, rfl⟩ ?_ ?_⟩
    · rintro i σ H' hi ⟨v3, rfl, rfl⟩
      walk_at "rd_Fa"
      refine rd_mul_int (Or.inr ⟨by omega, by omega⟩) ?_
      walk_at "rd_Fa"
      refine ⟨some (.int (0 + (i : Nat))), ?_, rfl⟩
      rw [show ((n ^ (i + 1) : Nat) : Int) = ((n ^ i : Nat) : Int) * ((n : Nat) : Int) by rw [Nat.pow_succ, Int.natCast_mul]]
      rfl
    · rintro σ H' ⟨v3, rfl, rfl⟩
      walk_at "rd_Fa"
      exact q _ (Same.refl _)
end
section
variable {P : Program} {w : World} {K : PySem.W.Frag} {mg : Str → Option Value} {base : Heap} {CText CPart CKeyReader : Addr}
theorem ok_x_law_is_told (T : Txt K mg CText CPart CKeyReader) : GOk P w K mg base CX0 5 "_law_is_told" (sp_x_law_is_told K CText CPart CKeyReader) := by
  refine T.d_x_law_is_told.ok sc_x_law_is_told (fun vs H Q E h => ?len) (fun f cdv A outer s H vs Q E hr h => ?_)
  case len => obtain ⟨x, h', d, b, l, ss, f, ls, ob, rfl, _⟩ := h; rfl
  · obtain ⟨x, hl, d, b, l, ss, f, ls, ob, rfl, R, T0, el, tr, hz, q⟩ := h
    refine ⟨_, (pss_cons (ps_asg (pe_tup (pa_cons (pe_p (pv 0) T.cKeyReader (ok_KeyReader_known_letters (K := K) T) (hr.mono (by decide)) pass0) (pa_cons (pe_callB (lenK (K := K) rfl) rfl T.n_len (by decide +kernel) (pa_cons (pe_p (pv 1) T.cText (ok_Text_typed_keys (K := K) T) (hr.mono (by decide)) pass0) pa_nil)) pa_nil))) (pg_tupK (K := K) (n := 2) rfl rfl (pgs_cons (pg_name (i := 3) sc_x_law_is_told.nd rfl (Or.inr rfl)) (pgs_cons (pg_name (i := 4) sc_x_law_is_told.nd rfl (Or.inl rfl)) pgs_nil))))
    (pss_cons (ps_if (PW.pt (pw_or (pt_cmpR (neK (K := K) rfl hr.units) (pe_lock (pe_lc (own := [("_law_key", 5)]) rfl sc_x_law_is_told.nd (pi_keys (pv 3)) (blkOk_by (own := [("_law_key", 5)]) (N := N_x_law_is_told) (sc := (defScope s_x_law_is_told)) (by first | decide +kernel | rfl)) (fun _ _ _ _ _ => (pg_name (i := 5) sc_x_law_is_told.nd rfl (Or.inl rfl))) (fun _ _ _ _ _ => (pts_one (pt_cmpR (neK (K := K) rfl hr.units) (pe_dget (hu_of hr) (pv 3) (pv 5) (fun _ _ => rfl)) (pe_ix (ixK (K := K) rfl) (pe_p (pv 1) T.cText (ok_Text_typed_keys (K := K) T) (hr.mono (by decide)) pass0) (pv 5) (fun _ _ => rfl)) (nomark _)))) (fun _ _ _ _ _ => (pv 5)))) (pe_lst pa_nil) (nomark _)) (pw_or1 (pt_cmpR (neK (K := K) rfl hr.units) (pe_callTy (call_list_dK rfl) rfl T.n_list (by decide +kernel) (pa_cons (pv 3) pa_nil)) (pe_callB (sortDI_any (K := K) rfl rfl) rfl T.n_sorted (by decide +kernel) (pa_cons (pv 3) pa_nil)) (nomark _))))) (pss_one (ps_ret pe_bl))
    pss_nil)
    (pss_cons (ps_set (i := 6) sc_x_law_is_told.nd rfl (Or.inl rfl) (pe_lenSetU (K := K) rfl rfl rfl T.n_len rfl T.n_set (pe_lc (own := [("_law_key", 5)]) rfl sc_x_law_is_told.nd (pi_range1 rfl T.n_range (pa_cons (pv 4) pa_nil)) (blkOk_by (own := [("_law_key", 5)]) (N := N_x_law_is_told) (sc := (defScope s_x_law_is_told)) (by first | decide +kernel | rfl)) (fun _ _ _ _ _ => (pg_name (i := 5) sc_x_law_is_told.nd rfl (Or.inl rfl))) (fun _ _ _ _ _ => (pts_one (pt_cmp (pc_dnotin (hu_of hr) (pv 5) (pv 3))))) (fun _ _ _ _ _ => (pe_ix (ixK (K := K) rfl) (pv 2) (pv 5) (fun _ _ => rfl))))))
    (pss_cons (ps_if (pt_cmpR (neK (K := K) rfl hr.units) (pe_m0 (pv 0) T.cKeyReader (ok_KeyReader_count_texts (K := K) T) (hr.mono (by decide)) pass0) (pe_g (ok_x_law_power (K := K) T) (hr.mono (by decide)) pass0 (pa_cons pe_int (pa_cons (pv 6) pa_nil))) (nomark _)) (pss_one (ps_ret pe_bl))
    pss_nil)
    (pss_cons (ps_for PassesOwn.never rfl (pi_range3 rfl T.n_range (pa_cons pe_int (pa_cons (pe_p (pv 1) T.cText (ok_Text_size (K := K) T) (hr.mono (by decide)) pass0) (pa_cons pe_int pa_nil)))) (pg_name (i := 7) sc_x_law_is_told.nd rfl (Or.inl rfl)) (pss_one (ps_if (pt_cmpR (neK (K := K) rfl hr.units) (pe_ixO (ok_KeyReader_getitem (K := K) T) (hr.mono (by decide)) pass0 (pv 0) (pv 7)) (pe_dget2 (hu_of hr) (pv 3) (pe_o (pv 1) (ok_Text_call (K := K) T) (hr.mono (by decide)) pass0 (pa_cons (pv 7) pa_nil)) pe_non ⟨rfl, rfl, rfl, rfl⟩) (nomark _)) (pss_one (ps_ret pe_bl))
    pss_nil)))
    (pss_one (ps_ret pe_bl))))))), ?_⟩
    refine rd_startE (show start N_x_law_is_told [.ref x, .ref b, .ref l] = [some (.ref x), some (.ref b), some (.ref l), none, none, none, none, none] from rfl) ?_
    walk_at "rd_Fa"
    refine rd_rdKnownH R fun H1 dk S1 n1 e1 => ?_
    have T1 := T0.kp (.same S1)
    have R1 := R.same S1
    have el1 := S1 _ _ el
    have ok := T1.ok
    have nk := tyL_small ok
    have few := T1.few
    have sle := sz_le ok
    have zw : (mkS (tyL ss)).length ≤ sizeLine := by rw [mkS_len, sizeLine_eq]; omega
    have kln := knownL_len f ls (tyL ss).length
    walk_at "rd_Fa"
    intro q2 H2 S2 e2 _
    refine rd_gtup (SqT.of e2) rfl ?_
    have T2 := T1.kp (.same S2)
    have R2 := R1.same S2
    have el2 := S2 _ _ el1
    have e1' := S2 _ _ e1
    walk_at "rd_Fa"
    refine rd_lockNone rfl e1' (by unfold kvM; rw [List.length_map, sizeLine_eq]; omega) (fun _ => rfl) (fun k v H3 R hm hr old qq => ?_) fun D3 H3 S3 e3 => ?_
    · obtain ⟨c, hc, rfl, rfl⟩ := kvM_mem hm
      obtain ⟨h1, h2⟩ := mem_knownL hc
      have la := tr.kn _ _ h1 h2
      have T3 := T2.but (show But dk H2 H3 from old) e1'
      walk_at "rd_Fa"
      refine rd_dget ?_
      walk_at "rd_Fa"
      refine ⟨dk, .str ⟨#[c.2]⟩, rfl, .inl ⟨_, _, hr, rfl, by rw [kvM_val, knownL_get, if_pos h1, h2]; rfl⟩, ?_⟩
      show tOp (rIx K) _ (tVar 5) [some (.ref x), some (.ref b), some (.ref l), some (.ref dk), some (.int ((tyL ss).length : Nat)), some (.int (c.1 : Nat)), none, none] H3 _
      walk_at "rd_Fa"
      rw [Int.toNat_natCast, show (tyL ss)[c.1]?.getD 0 = c.2 from la, decide_eq_true rfl]
      exact qq _ (Same.refl _)
    · have T3 := T2.kp (.same S3)
      have R3 := R2.same S3
      have el3 := S3 _ _ el2
      have e1'' := S3 _ _ e1'
      walk_at "rd_Fa"
      intro q4 H4 S4 e4 _
      refine rd_ne_same (n := 1) (d := .list []) (.lst (SqL.of (S4 _ _ e3)) .nil) (.lst (SqL.of e4) .nil) (.lst fun d hd => by cases hd) (by decide) ?_
      walk_at "rd_Fa"
      refine rd_listKn (S4 _ _ e1'') fun q5 H5 S5 e5 => ?_
      walk_at "rd_Fa"
      refine rd_sortKn (S5 _ _ (S4 _ _ e1'')) fun q6 H6 S6 e6 => ?_
      refine rd_neNN (S6 _ _ e5) e6 ?_
      rw [decide_eq_true rfl]
      have S36 := (S4.trans S5).trans S6
      have SH6 := ((S1.trans S2).trans S3).trans S36
      have T6 := T3.kp (.same S36)
      have R6 := R3.same S36
      have el6 := S36 _ _ el3
      have ek6 := S36 _ _ e1''
      clear T1 T2 T3 R1 R2 R3 el1 el2 el3 e1 e1' e1'' e3 e4 e5 e6 S4 S5 S6 S36
      walk_at "rd_Fa"
      refine rd_lenSetU ?_
      walk_at "rd_Fa"
      have sp : ∀ k, k < (tyL ss).length → f k ≤ k ∧ f (f k) = f k := fun k hk => by
        obtain ⟨i, r⟩ := R6
        obtain ⟨a1, _, a2⟩ := r.spec hk
        exact ⟨a1, a2⟩
      refine ⟨_, rfl, by omega, by omega, fun D hD => lc_filt (f := fun k => .int (f k : Nat)) (p := fun k => (gL ls (f k)).isNone) (n := (tyL ss).length) (it := fun i => .int (0 + (i : Nat))) (by rw [Int.toNat_natCast]; exact plain_rng) hD (by rw [sizeLine_eq]; omega) (fun _ => rfl) (fun k H7 R7 hk S7 qq => ?_) (fun k H7 Q7 hk hp S7 qq => ?_) fun H7 S7 eD => ?_⟩
      · rw [show (0 : Int) + (k : Nat) = (k : Nat) by omega]
        walk_at "rd_Fa"
        refine rd_dnotin ?_
        walk_at "rd_Fa"
        refine ⟨dk, _, rfl, kvM_dget (S7 _ _ ek6) k, ?_⟩
        walk_at "rd_Fa"
        have := qq _ (Same.refl _)
        rw [knownL_get, if_pos hk]
        rw [show (!((gL ls (f k)).map fun c => V.str ⟨#[c]⟩).isSome) = (gL ls (f k)).isNone by cases gL ls (f k) <;> rfl]
        exact this
      · rw [show (0 : Int) + (k : Nat) = (k : Nat) by omega]
        walk_at "rd_Fa"
        refine rd_ixLn (v := .int (f k : Nat)) (SqL.of (S7 _ _ el6)) ?_ ?_
        · unfold natV
          rw [List.map_map, List.getElem?_map, List.getElem?_range hk]; rfl
        · exact qq _ (Same.refl _)
      · refine ⟨D, ((List.range (tyL ss).length).filter fun k => (gL ls (f k)).isNone).map fun k => ((f k : Nat) : Int), rfl, SqL.of (by rw [eD, List.map_map]; rfl), ?_, ?_⟩
        · rw [List.length_map]
          have := List.length_filter_le (fun k => (gL ls (f k)).isNone) (List.range (tyL ss).length)
          rw [List.length_range] at this
          omega
        rw [open_count sp]
        have T7 := T6.kp (.same S7)
        have R7 := R6.same S7
        have ek7 := S7 _ _ ek6
        have ol := openH_len' f ls (tyL ss).length
        clear T6 R6 el6 ek6 eD hD
        walk_at "rd_Fa"
        refine ⟨R7.insM, ?_⟩
        walk_at "rd_Fa"
        refine ⟨x, hl, d, ss, f, ls, ob, rfl, R7, fun H8 S8 => ?_⟩
        walk_at "rd_Fa"
        refine ⟨26, _, rfl, by decide, by omega, fun H9 S9 => ?_⟩
        walk_at "rd_Fa"
        have S79 := S8.trans S9
        have SH9 := (SH6.trans S7).trans S79
        have T9 := T7.kp (.same S79)
        have R9 := R7.same S79
        have ek9 := S79 _ _ ek7
        clear T7 R7 ek7 S8 S9 S79 S7
        refine rd_iRng3 ?_
        walk_at "rd_Fa"
        refine ⟨0, _, 3, (sz ss + 3 - 1) / 3, rfl, rgC_up (n := sz ss) (m := 3) (by decide) (by decide) (by omega), ?_⟩
        refine for_plain (n := (sz ss + 3 - 1) / 3) (it := fun i => .int (0 + (i : Nat) * 3)) (fun i σ H' => ∃ v5 v7, σ = [some (.ref x), some (.ref b), some (.ref l), some (.ref dk), some (.int ((tyL ss).length : Nat)), v5, some (.int ((openH f ls (tyL ss).length).length : Nat)), v7] ∧ Same H9 H') ⟨_, _, rfl, Same.refl _⟩ (fun _ _ _ _ _ => plain_rngC) ?_ ?_
        · rintro i σ H10 hi ⟨v5, v7, rfl, S10⟩
          have hp : i * 3 < sz ss := by omega
          have T10 := T9.kp (.same S10)
          have R10 := R9.same S10
          have ek10 := S10 _ _ ek9
          walk_at "rd_Fa"
          rw [show (0 : Int) + (i : Nat) * 3 = ((i * 3 : Nat) : Int) by omega]
          walk_at "rd_Fa"
          refine ⟨R10.insA, x, hl, d, ss, f, ls, ob, i * 3, rfl, R10, hp, fun H11 S11 => ?_⟩
          have T11 := T10.kp (.same S11)
          have ek11 := S11 _ _ ek10
          have kl := kat_lt T11.ok hp
          walk_at "rd_Fa"
          refine rd_dget2 ?_
          walk_at "rd_Fa"
          refine ⟨.inl ⟨_, .inl ek11⟩, ?_⟩
          walk_at "rd_Fa"
          rw [Int.toNat_natCast]
          refine ⟨_, kvM_dget ek11 _, ?_⟩
          rw [knownL_get, if_pos kl]
          have end_ : ∀ v5', ∃ v5 v7, (([some (.ref x), some (.ref b), some (.ref l), some (.ref dk), some (.int ((tyL ss).length : Nat)), v5', some (.int ((openH f ls (tyL ss).length).length : Nat)), some (.int (i * 3 : Nat))] : St)) = [some (.ref x), some (.ref b), some (.ref l), some (.ref dk), some (.int ((tyL ss).length : Nat)), v5, some (.int ((openH f ls (tyL ss).length).length : Nat)), v7] ∧ Same H9 H11 := fun v => ⟨_, _, rfl, S10.trans S11⟩
          cases e : gL ls (f (kat ss (i * 3))) with
          | none =>
            show rNeA K .non .non H11 _
            refine rd_ne_scal rfl ?_
            rw [decide_eq_true rfl]
            walk_at "rd_Fa"
            exact end_ _
          | some c =>
            show rNeA K (.str ⟨#[c]⟩) (.str ⟨#[c]⟩) H11 _
            refine rd_ne_str ?_
            rw [decide_eq_true rfl]
            walk_at "rd_Fa"
            exact end_ _
        · rintro σ H10 ⟨v5, v7, rfl, S10⟩
          walk_at "rd_Fa"
          exact q _ (SH9.trans S10)
end
section
variable {P : Program} {w : World} {K : PySem.W.Frag} {mg : Str → Option Value} {base : Heap} {CText CPart CKeyReader : Addr}
theorem ok_x_law_is_seen (T : Txt K mg CText CPart CKeyReader) : GOk P w K mg base CX0 6 "_law_is_seen" (sp_x_law_is_seen K CText CPart CKeyReader) := by
  refine T.d_x_law_is_seen.ok sc_x_law_is_seen (fun vs H Q E h => ?len) (fun f cdv A outer s H vs Q E hr h => ?_)
  case len => obtain ⟨G, r, b, x, h', d, l, ss, f, ls, ob, rfl, _⟩ := h; rfl
  · obtain ⟨G, r, b, x, hl, d, l, ss, f, ls, ob, rfl, hs, el, nl, tr, hp, hz, ho, q⟩ := h
    refine ⟨_, (pss_cons (ps_par3 (i := 4) (j := 5) (l := 6) rfl sc_x_law_is_seen.nd rfl rfl rfl (by decide) (by decide) (by decide) rfl rfl rfl (pa_cons (pe_g (ok_x_law_taken (K := K) T) (hr.mono (by decide)) pass0 (pa_cons (pv 0) (pa_cons (pe_p (pv 2) T.cText (ok_Text_size (K := K) T) (hr.mono (by decide)) pass0) pa_nil))) (pa_cons (pe_g (ok_x_law_taken (K := K) T) (hr.mono (by decide)) pass0 (pa_cons (pv 0) (pa_cons (pe_p (pv 2) T.cText (ok_Text_size (K := K) T) (hr.mono (by decide)) pass0) pa_nil))) (pa_cons (pe_g (ok_x_law_taken (K := K) T) (hr.mono (by decide)) pass0 (pa_cons (pv 0) (pa_cons pe_int pa_nil))) pa_nil))) rfl)
    (pss_cons (ps_if (pt_cmpR (eqK (K := K) rfl hr.units) (pv 6) pe_int (nomark _)) (pss_one (ps_set (i := 7) sc_x_law_is_seen.nd rfl (Or.inl rfl) (pe_m (pv 1) T.cKeyReader (ok_KeyReader_see (K := K) T) (hr.mono (by decide)) pass0 (pa_cons (pv 4) (pa_cons (pe_ixO (ok_Text_getitem (K := K) T) (hr.mono (by decide)) pass0 (pv 2) (pv 4)) pa_nil)))))
    (pss_one (ps_if (PW.pt (pw_or (pt_cmpR (eqK (K := K) rfl hr.units) (pv 6) pe_int (nomark _)) (pw_or1 (pt_cmpR (neK (K := K) rfl hr.units) (pe_ixO (ok_Text_getitem (K := K) T) (hr.mono (by decide)) pass0 (pv 2) (pv 4)) (pe_ixO (ok_Text_getitem (K := K) T) (hr.mono (by decide)) pass0 (pv 2) (pv 5)) (nomark _))))) (pss_cons (ps_set (i := 8) sc_x_law_is_seen.nd rfl (Or.inl rfl) (pe_callB (cMin2 rfl) rfl T.n_min (by decide +kernel) (pa_cons (pe_op op_sub (pe_p (pv 2) T.cText (ok_Text_size (K := K) T) (hr.mono (by decide)) pass0) pe_int) (pa_cons (pe_op (addK (K := K) rfl) (pv 4) (pe_g (ok_x_law_taken (K := K) T) (hr.mono (by decide)) pass0 (pa_cons (pv 0) (pa_cons pe_int pa_nil)))) pa_nil))))
    (pss_one (ps_set (i := 7) sc_x_law_is_seen.nd rfl (Or.inl rfl) (pe_m (pv 1) T.cKeyReader (ok_KeyReader_see_word (K := K) T) (hr.mono (by decide)) pass0 (pa_cons (pv 4) (pa_cons (pe_g (ok_letters_between (K := K) T) (hr.mono (by decide)) pass0 (pa_cons (pv 2) (pa_cons (pv 4) (pa_cons (pv 8) pa_nil)))) pa_nil))))))
    (pss_cons (ps_asg (pe_tup (pa_cons (pe_callB (cMin2 rfl) rfl T.n_min (by decide +kernel) (pa_cons (pe_ix (ixK (K := K) rfl) (pv 3) (pe_o (pv 2) (ok_Text_call (K := K) T) (hr.mono (by decide)) pass0 (pa_cons (pv 4) pa_nil)) (fun _ _ => rfl)) (pa_cons (pe_ix (ixK (K := K) rfl) (pv 3) (pe_o (pv 2) (ok_Text_call (K := K) T) (hr.mono (by decide)) pass0 (pa_cons (pv 5) pa_nil)) (fun _ _ => rfl)) pa_nil))) (pa_cons (pe_callB (cMax2 rfl) rfl T.n_max (by decide +kernel) (pa_cons (pe_ix (ixK (K := K) rfl) (pv 3) (pe_o (pv 2) (ok_Text_call (K := K) T) (hr.mono (by decide)) pass0 (pa_cons (pv 4) pa_nil)) (fun _ _ => rfl)) (pa_cons (pe_ix (ixK (K := K) rfl) (pv 3) (pe_o (pv 2) (ok_Text_call (K := K) T) (hr.mono (by decide)) pass0 (pa_cons (pv 5) pa_nil)) (fun _ _ => rfl)) pa_nil))) pa_nil))) (pg_tupK (K := K) (n := 2) rfl rfl (pgs_cons (pg_name (i := 9) sc_x_law_is_seen.nd rfl (Or.inr rfl)) (pgs_cons (pg_name (i := 10) sc_x_law_is_seen.nd rfl (Or.inr rfl)) pgs_nil))))
    (pss_cons (ps_setLc (i := 3) (own := [("_law_head", 11)]) rfl sc_x_law_is_seen.nd rfl rfl (sw_true rfl rfl rfl (by decide +kernel)) (pi_listK (K := K) rfl (pv 3)) (blkOk_by (own := [("_law_head", 11)]) (N := N_x_law_is_seen) (sc := (defScope s_x_law_is_seen)) (by first | decide +kernel | rfl)) (fun _ _ _ _ _ => (pg_name (i := 11) sc_x_law_is_seen.nd rfl (Or.inl rfl))) (fun _ _ _ _ _ => pts_nil) (fun _ _ _ _ _ => (pe_ifExp (pt_cmpR (eqK (K := K) rfl hr.units) (pv 11) (pv 10) (nomark _)) (pv 9) (pv 11))))
    (pss_cons (ps_if (PW.pt (pw_or (pt_cmpR (neK (K := K) rfl hr.units) (pe_m (pv 1) T.cKeyReader (ok_KeyReader_hear_alike (K := K) T) (hr.mono (by decide)) pass0 (pa_cons (pv 4) (pa_cons (pv 5) pa_nil))) (pe_m0 (pv 1) T.cKeyReader (ok_KeyReader_count_texts (K := K) T) (hr.mono (by decide)) pass0) (nomark _)) (pw_or1 (pt_not (pt_val (pe_m (pv 1) T.cKeyReader (ok_KeyReader_is_surely_alike (K := K) T) (hr.mono (by decide)) pass0 (pa_cons (pv 4) (pa_cons (pv 5) pa_nil)))))))) (pss_one (ps_ret pe_non))
    pss_nil)
    (pss_one (ps_set (i := 7) sc_x_law_is_seen.nd rfl (Or.inl rfl) (pe_callB lenDK rfl T.n_len (by decide +kernel) (pa_cons (pe_p (pv 1) T.cKeyReader (ok_KeyReader_known_letters (K := K) T) (hr.mono (by decide)) pass0) pa_nil))))))))))
    (pss_one (ps_ret (pe_ifExp (pt_cmpR (eqK (K := K) rfl hr.units) (pv 7) (pe_callB lenDK rfl T.n_len (by decide +kernel) (pa_cons (pe_p (pv 1) T.cKeyReader (ok_KeyReader_known_letters (K := K) T) (hr.mono (by decide)) pass0) pa_nil)) (nomark _)) (pv 3) pe_non))))), ?_⟩
    refine rd_startE (show start N_x_law_is_seen [.ref r, .ref x, .ref b, .ref l] = [some (.ref r), some (.ref x), some (.ref b), some (.ref l), none, none, none, none, none, none, none, none] from rfl) ?_
    have T0 := hs.txt
    have row0 := hs.row
    have ok := T0.ok
    have nk := tyL_small ok
    have few := T0.few
    have sle := sz_le ok
    walk_at "rd_Fa"
    refine rd_par3 ?_
    walk_at "rd_Fa"
    intro p H1 hp1 k1 row1
    have hs1 := hs.kpT k1 row1
    have el1 := k1.keep _ _ nr_natV el
    have T1 := hs1.txt
    clear hs el T0 row0 k1
    walk_at "rd_Fa"
    intro o H2 ho1 k2 row2
    have hs2 := hs1.kpT k2 row2
    have el2 := k2.keep _ _ nr_natV el1
    clear hs1 el1 T1 row1 k2
    walk_at "rd_Fa"
    intro m H3 hm k3 row3
    have hs3 := hs2.kpT k3 row3
    have el3 := k3.keep _ _ nr_natV el2
    have T3 := hs3.txt
    clear hs2 el2 row2 k3
    have hp' : p < sz ss := by omega
    have ho' : o < sz ss := by omega
    have ka := kat_lt ok hp'
    have kb := kat_lt ok ho'
    have la := lat_let ok ka
    refine ⟨_, _, _, rfl, ?_⟩
    walk_at "rdS_Fa"
    refine rd_ifSJ (fun σ' Hc => ∃ l' f' ls' ob' v4 v5 v6 v8 v9 v10 v11, σ' = [some (.ref r), some (.ref x), some (.ref b), some (.ref l'), v4, v5, v6, some (.int (knownN f' ls' (tyL ss).length : Nat)), v8, v9, v10, v11] ∧ Hs K CText CPart CKeyReader G Hc r b x hl d ss f' ls' ob' ∧ Hc l' = some (.lst (natV ((List.range (tyL ss).length).map f'))) ∧ l' ∉ [x, hl, d] ∧ Tru ss f' ls' ∧ ob'.length ≤ ob.length + 1) ?_ fun nx' hnx => ?_
    · rintro σ' Hc ⟨l', f', ls', ob', v4, v5, v6, v8, v9, v10, v11, rfl, hs', el', nl', tr', lo'⟩
      clear hs3 el3 T3 row3
      walk_at "rd_Fa"
      refine rd_rdKnownH hs'.rd fun H4 p4 S4 n4 e4 => ?_
      walk_at "rd_Fa"
      refine rd_lenKn e4 ?_
      rw [knownL_N]
      walk_at "rd_Fa"
      exact q _ l' f' ls' ob' (hs'.same S4) (S4 _ _ el') nl' tr' lo'
    · walk_at "rd_Fa"
      refine rd_ite (fun h0 => ?_) (fun h0 => ?_)
      · walk_at "rd_Fa"
        refine ⟨hs3.rd.insM, ?_⟩
        walk_at "rd_Fa"
        rw [Int.toNat_natCast]
        refine ⟨x, hl, d, ss, f, ls, ob, p, _, rfl, hs3.rd, hp', la.1, la.2, (fun c' hc => (tr.kn _ _ ka hc).symm), by omega, fun H4 B4 R4 => ?_⟩
        walk_at "rd_Fa"
        exact hnx _ _ ⟨l, f, _, _, _, _, _, _, _, _, _, rfl, hs3.bt B4 R4, B4 _ _ nl el3, nl, tr.see ka, by rw [List.length_append]; exact Nat.le_refl _⟩
      · walk_at "rdS_Fa"
        refine rd_ifOrJ (fun Hc => Hc = H3) ?_ fun hq => ?_
        · rintro Hc rfl
          walk_at "rd_Fa"
          intro m4 H4 hm4 k4 row4
          have hs4 := hs3.kpT k4 row4
          have el4 := k4.keep _ _ nr_natV el3
          have T4 := hs4.txt
          clear hs3 el3 T3 row3 k4
          walk_at "rd_Fa"
          obtain ⟨e, he, he1, he2, he3⟩ : ∃ e : Nat, (if (p : Int) + (m4 : Nat) < ((sz ss : Nat) : Int) - 1 then (p : Int) + (m4 : Nat) else ((sz ss : Nat) : Int) - 1) = (e : Nat) ∧ p ≤ e ∧ e < sz ss ∧ e ≤ p + 4 := by
            by_cases z : (p : Int) + (m4 : Nat) < ((sz ss : Nat) : Int) - 1
            · exact ⟨p + m4, by rw [if_pos z]; omega, by omega, by omega, by omega⟩
            · exact ⟨sz ss - 1, by rw [if_neg z]; omega, by omega, by omega, by omega⟩
          rw [he]
          refine ⟨hs4.rd.insM, ?_⟩
          walk_at "rd_Fa"
          refine rd_between T4 (by omega) (by omega) (by omega) (by omega) fun H5 S5 => ?_
          have hs5 := hs4.same S5
          have el5 := S5 _ _ el4
          rw [show ((e : Int) + 1).toNat = e + 1 by omega, Int.toNat_natCast, ls_cut ok (by omega) (by omega)]
          obtain ⟨w, hw⟩ : ∃ w, (List.range (e + 1 - p)).map (fun j => lat ss (kat ss (p + j))) = w := ⟨_, rfl⟩
          have lw : w.length = e + 1 - p := by rw [← hw, List.length_map, List.length_range]
          have wat : ∀ i c, w[i]? = some c → c = lat ss (kat ss (p + i)) := fun i c hc => by
            have hi : i < e + 1 - p := by rw [← lw]; exact (List.getElem?_eq_some_iff.mp hc).1
            rw [← hw, List.getElem?_map, List.getElem?_range hi] at hc
            cases hc; rfl
          have wl : ∀ c ∈ w, 97 ≤ c ∧ c ≤ 122 := fun c hc => by
            obtain ⟨i, hi⟩ := List.getElem?_of_mem hc
            have hi' : i < e + 1 - p := by rw [← lw]; exact (List.getElem?_eq_some_iff.mp hi).1
            rw [wat i c hi]
            exact lat_let ok (kat_lt ok (by omega))
          obtain ⟨tw, okw⟩ := Tru.word ok (w := w) (p := p) tr (by omega) wat
          rw [hw]
          walk_at "rd_Fa"
          refine ⟨x, hl, d, ss, f, ls, ob, p, w, rfl, hs5.rd, by omega, by omega, by omega, wl, okw, by omega, fun H6 B6 R6 => ?_⟩
          walk_at "rd_Fa"
          exact hnx _ _ ⟨l, f, _, _, _, _, _, _, _, _, _, rfl, hs5.bt B6 R6, B6 _ _ nl el5, nl, tw, by rw [List.length_append]; exact Nat.le_refl _⟩
        · walk_at "rd_Fa"
          refine rd_ite (fun h1 => ?_) (fun h1 => ?_)
          · refine rd_cT rfl ?_
            exact hq _ rfl
          · walk_at "rd_Fa"
            rw [Int.toNat_natCast, Int.toNat_natCast]
            by_cases hlo : lat ss (kat ss p) = lat ss (kat ss o)
            · refine rd_nF (by rw [hlo]) ?_
              walk_at "rd_Fa"
              obtain ⟨a', hka⟩ : ∃ a', kat ss p = a' := ⟨_, rfl⟩
              obtain ⟨b', hkb⟩ : ∃ b', kat ss o = b' := ⟨_, rfl⟩
              rw [hka] at ka hlo
              rw [hkb] at kb hlo
              rw [Int.toNat_natCast, hka]
              refine rd_ixLn (SqL.of el3) (natV_at ka) ?_
              walk_at "rd_Fa"
              rw [Int.toNat_natCast, hkb]
              refine rd_ixLn (SqL.of el3) (natV_at kb) ?_
              walk_at "rd_Fa"
              rw [Int.toNat_natCast, hka]
              refine rd_ixLn (SqL.of el3) (natV_at ka) ?_
              walk_at "rd_Fa"
              rw [Int.toNat_natCast, hkb]
              refine rd_ixLn (SqL.of el3) (natV_at kb) ?_
              walk_at "rd_Fa"
              intro q5 H5 S5 e5 _
              rw [show (if ((f b' : Nat) : Int) < (f a' : Nat) then ((f b' : Nat) : Int) else (f a' : Nat)) = ((min (f a') (f b') : Nat) : Int) by split <;> omega, show (if ((f b' : Nat) : Int) > (f a' : Nat) then ((f b' : Nat) : Int) else (f a' : Nat)) = ((max (f a') (f b') : Nat) : Int) by split <;> omega] at e5
              refine rd_gtup (SqT.of e5) rfl ?_
              have hs5 := hs3.same S5
              have el5 := S5 _ _ el3
              walk_at "rd_Fa"
              refine fun D hD => lc_fun (n := (tyL ss).length) (plain_mapF el5) hD (by rw [sizeLine_eq]; omega) (fun _ => rfl) (fun k => .int (tieF f a' b' k : Nat)) (fun k H6 Q6 hk S6 qq => ?_) fun H6 S6 eD => ?_
              · rw [mapF_at hk]
                walk_at "rd_Fa"
                rcases tieF_at (f := f) (a := a') (b := b') (k := k) with ⟨t1, t2⟩ | ⟨t1, t2⟩
                · refine rd_dT (by omega) ?_
                  walk_at "rd_Fa"
                  rw [← t2]
                  exact qq _ (Same.refl _)
                · refine rd_dF (by omega) ?_
                  walk_at "rd_Fa"
                  rw [← t2]
                  exact qq _ (Same.refl _)
              · have hs6 := hs5.same S6
                have eD' : H6 D = some (.lst (natV ((List.range (tyL ss).length).map (tieF f a' b')))) := by rw [eD]; unfold natV; rw [List.map_map]; rfl
                have nD : D ∉ [x, hl, d] := fun z => by
                  obtain ⟨i5, r5⟩ := hs5.rd
                  simp only [List.mem_cons, List.not_mem_nil, or_false] at z
                  rcases z with rfl | rfl | rfl
                  · have := r5.ins; rw [hD] at this; cases this
                  · have := r5.hl; rw [hD] at this; cases this
                  · have := r5.dl; rw [hD] at this; cases this
                have th := tr.hear ka kb hlo
                walk_at "rd_Fa"
                refine ⟨hs6.rd.insM, ?_⟩
                walk_at "rd_Fa"
                refine ⟨x, hl, d, ss, f, ls, ob, p, o, rfl, hs6.rd, hp', ho', (fun c c' h1 h2 => ?_), by omega, fun H7 B7 R7 => ?_⟩
                · rw [hka] at h1
                  rw [hkb] at h2
                  rw [← tr.kn _ _ ka h1, ← tr.kn _ _ kb h2]; exact hlo
                · rw [hka, hkb] at R7 ⊢
                  have hs7 := hs6.bt B7 R7
                  have e7 := B7 _ _ nD eD'
                  walk_at "rd_Fa"
                  refine ⟨hs7.rd.insM, ?_⟩
                  walk_at "rd_Fa"
                  refine ⟨x, hl, d, ss, _, _, _, rfl, hs7.rd, fun H8 S8 => ?_⟩
                  have hs8 := hs7.same S8
                  walk_at "rd_Fa"
                  refine ⟨hs8.rd.insM, ?_⟩
                  walk_at "rd_Fa"
                  refine ⟨x, hl, d, ss, _, _, _, p, o, rfl, hs8.rd, hp', ho', fun H9 S9 => ?_⟩
                  have hs9 := hs8.same S9
                  rw [show sureB (tieF f a' b') (hearL f ls a' b') (kat ss p) (kat ss o) = true by
                    unfold sureB
                    rw [hka, hkb, decide_eq_true (tieF_eq f a' b'), Bool.true_or]]
                  walk_at "rd_Fa"
                  refine rd_rdKnownH hs9.rd fun H10 p10 S10 n10 e10 => ?_
                  walk_at "rd_Fa"
                  refine rd_lenKn e10 ?_
                  rw [knownL_N]
                  have S := (S8.trans S9).trans S10
                  walk_at "rd_Fa"
                  exact hnx _ _ ⟨D, _, _, _, _, _, _, _, _, _, _, rfl, hs9.same S10, S _ _ e7, nD, th, by rw [List.length_append]; exact Nat.le_refl _⟩
            · refine rd_nT (fun z => hlo (by have := congrArg Str.cps z; simpa using this)) ?_
              exact hq _ rfl
end
section
variable {P : Program} {w : World} {K : PySem.W.Frag} {mg : Str → Option Value} {base : Heap} {CText CPart CKeyReader : Addr}
theorem ok_law (T : Txt K mg CText CPart CKeyReader) {f : Addr} {fd : FuncData} (F : Fun K "law" "law" s_law f fd) : FnOk P w K mg base CX0 7 f fd ["_law_script"] (sp_law K) := by
  refine F.ok sc_law (fun vs H Q E h => ?len) (fun cdv A outer s H vs Q E hr h => ?_)
  case len => obtain ⟨a, sc, rfl, _⟩ := h; rfl
  · obtain ⟨a, sc, rfl, ha, k⟩ := h
    refine ⟨_, (pss_cons (ps_set (i := 1) sc_law.nd rfl (Or.inl rfl) (pe_lst (pa_cons (pv 0) (pa_cons pe_int (pa_cons pe_int (pa_cons pe_int pa_nil))))))
    (pss_cons (ps_for PassesOwn.never rfl (pi_range1 rfl T.n_range (pa_cons pe_int pa_nil)) (pg_name (i := 2) sc_law.nd rfl (Or.inl rfl)) (pss_cons (ps_set (i := 3) sc_law.nd rfl (Or.inl rfl) (pe_c (pe_glob (v := .ref CText) rfl T.g_Text rfl) (ok_Text_of_steps (K := K) T) (hr.mono (by decide)) pass0 (pa_cons (pe_callTy (listK (K := K) rfl) rfl T.n_list (by decide +kernel) (pa_cons (pe_g (ok_x_law_steps (K := K) T) (hr.mono (by decide)) pass0 (pa_cons (pv 1) (pa_cons (pe_op (addK (K := K) rfl) pe_int (pe_g (ok_x_law_taken (K := K) T) (hr.mono (by decide)) pass0 (pa_cons (pv 1) (pa_cons pe_int pa_nil)))) (pa_cons pe_int pa_nil)))) pa_nil)) pa_nil)))
    (pss_cons (ps_asg (pe_tup (pa_cons (pe_k (ok_KeyReader_init (K := K) T) (hr.mono (by decide)) T.g_KeyReader pass0 (pa_cons (pv 3) pa_nil)) (pa_cons (pe_listRg rfl rfl T.n_list (prg_1 rfl T.n_range (pe_callB (lenK (K := K) rfl) rfl T.n_len (by decide +kernel) (pa_cons (pe_p (pv 3) T.cText (ok_Text_typed_keys (K := K) T) (hr.mono (by decide)) pass0) pa_nil)))) pa_nil))) (pg_tupK (K := K) (n := 2) rfl rfl (pgs_cons (pg_name (i := 4) sc_law.nd rfl (Or.inl rfl)) (pgs_cons (pg_name (i := 5) sc_law.nd rfl (Or.inr rfl)) pgs_nil))))
    (pss_cons (ps_for PassesOwn.never rfl (pi_range1 rfl T.n_range (pa_cons pe_int pa_nil)) (pg_name (i := 6) sc_law.nd rfl (Or.inl rfl)) (pss_cons (ps_set (i := 5) sc_law.nd rfl (Or.inr rfl) (pe_g (ok_x_law_is_seen (K := K) T) (hr.mono (by decide)) pass0 (pa_cons (pv 1) (pa_cons (pv 4) (pa_cons (pv 3) (pa_cons (pv 5) pa_nil))))))
    (pss_one (ps_if (PW.pt (pw_or (pt_cmpR oIsN (pv 5) pe_non (nomark _)) (pw_or1 (pt_not (pt_val (pe_g (ok_x_law_is_told (K := K) T) (hr.mono (by decide)) pass0 (pa_cons (pv 4) (pa_cons (pv 3) (pa_cons (pv 5) pa_nil))))))))) (pss_one (ps_ret pe_bl))
    pss_nil))))
    (pss_cons (ps_set (i := 7) sc_law.nd rfl (Or.inl rfl) (pe_m (pv 4) T.cKeyReader (ok_KeyReader_text_with (K := K) T) (hr.mono (by decide)) pass0 (pa_cons pe_str pa_nil)))
    (pss_cons (ps_set (i := 8) sc_law.nd rfl (Or.inr rfl) (pe_p (pv 4) T.cKeyReader (ok_KeyReader_known_letters (K := K) T) (hr.mono (by decide)) pass0))
    (pss_cons (ps_if (PW.pt (pw_or (pt_cmpR (neK (K := K) rfl hr.units) (pe_p (pv 7) T.cText (ok_Text_typed_keys (K := K) T) (hr.mono (by decide)) pass0) (pe_joinK (K := K) rfl pe_str (pe_lc (own := [("_law_key", 9)]) rfl sc_law.nd (pi_range1 rfl T.n_range (pa_cons (pe_callB (lenK (K := K) rfl) rfl T.n_len (by decide +kernel) (pa_cons (pv 5) pa_nil)) pa_nil)) (blkOk_by (own := [("_law_key", 9)]) (N := N_law) (sc := (defScope s_law)) (by first | decide +kernel | rfl)) (fun _ _ _ _ _ => (pg_name (i := 9) sc_law.nd rfl (Or.inl rfl))) (fun _ _ _ _ _ => pts_nil) (fun _ _ _ _ _ => (pe_dget2 (hu_of hr) (pv 8) (pv 9) pe_str ⟨rfl, rfl, rfl, rfl⟩)))) (nomark _)) (pw_or1 (pt_cmpR (neK (K := K) rfl hr.units) (pe_p (pv 7) T.cText (ok_Text_size (K := K) T) (hr.mono (by decide)) pass0) (pe_p (pv 3) T.cText (ok_Text_size (K := K) T) (hr.mono (by decide)) pass0) (nomark _))))) (pss_one (ps_ret pe_bl))
    pss_nil)
    (pss_cons (ps_set (i := 10) sc_law.nd rfl (Or.inl rfl) (pe_m0 (pv 4) T.cKeyReader (ok_KeyReader_fewest_places (K := K) T) (hr.mono (by decide)) pass0))
    (pss_cons (ps_if (pt_cmpR (neK (K := K) rfl hr.units) (pe_callB (lenK (K := K) rfl) rfl T.n_len (by decide +kernel) (pa_cons (pv 10) pa_nil)) (pe_lenSetU (K := K) rfl rfl rfl T.n_len rfl T.n_set (pe_lc (own := [("_law_key", 9)]) rfl sc_law.nd (pi_range1 rfl T.n_range (pa_cons (pe_callB (lenK (K := K) rfl) rfl T.n_len (by decide +kernel) (pa_cons (pv 5) pa_nil)) pa_nil)) (blkOk_by (own := [("_law_key", 9)]) (N := N_law) (sc := (defScope s_law)) (by first | decide +kernel | rfl)) (fun _ _ _ _ _ => (pg_name (i := 9) sc_law.nd rfl (Or.inl rfl))) (fun _ _ _ _ _ => (pts_one (pt_cmp (pc_dnotin (hu_of hr) (pv 9) (pv 8))))) (fun _ _ _ _ _ => (pe_ix (ixK (K := K) rfl) (pv 5) (pv 9) (fun _ _ => rfl))))) (nomark _)) (pss_one (ps_ret pe_bl))
    pss_nil)
    (pss_cons (ps_if (pt_cmpR (neK (K := K) rfl hr.units) (pv 10) (pe_callB (sortIK (K := K) rfl) rfl T.n_sorted (by decide +kernel) (pa_cons (pv 10) pa_nil)) (nomark _)) (pss_one (ps_ret pe_bl))
    pss_nil)
    (pss_cons (ps_for PassesOwn.never rfl (pi_listK (K := K) rfl (pv 10)) (pg_name (i := 11) sc_law.nd rfl (Or.inl rfl)) (pss_cons (ps_if (pt_cmpR (eqK (K := K) rfl hr.units) (pe_callB lenDK rfl T.n_len (by decide +kernel) (pa_cons (pe_p (pv 4) T.cKeyReader (ok_KeyReader_known_letters (K := K) T) (hr.mono (by decide)) pass0) pa_nil)) (pe_callB (lenK (K := K) rfl) rfl T.n_len (by decide +kernel) (pa_cons (pv 5) pa_nil)) (nomark _)) (pss_one (ps_ret pe_bl))
    pss_nil)
    (pss_one (ps_expr (pe_m (pv 4) T.cKeyReader (ok_KeyReader_see (K := K) T) (hr.mono (by decide)) pass0 (pa_cons (pv 11) (pa_cons (pe_ixO (ok_Text_getitem (K := K) T) (hr.mono (by decide)) pass0 (pv 3) (pv 11)) pa_nil)))))))
    (pss_one (ps_if (PW.pt (pw_or (pt_cmpR (neK (K := K) rfl hr.units) (pe_m0 (pv 4) T.cKeyReader (ok_KeyReader_count_texts (K := K) T) (hr.mono (by decide)) pass0) pe_int (nomark _)) (pw_or (pt_cmpR (neK (K := K) rfl hr.units) (pe_m0 (pv 4) T.cKeyReader (ok_KeyReader_fewest_places (K := K) T) (hr.mono (by decide)) pass0) (pe_lst pa_nil) (nomark _)) (pw_or1 (pt_not (pt_cmpR (oEqOK (K := K) rfl (ok_Text_eq (K := K) T) (hr.mono (by decide)) pass0) (pe_m (pv 4) T.cKeyReader (ok_KeyReader_text_with (K := K) T) (hr.mono (by decide)) pass0 (pa_cons pe_str pa_nil)) (pv 3) (nomark _))))))) (pss_one (ps_ret pe_bl))
    pss_nil)))))))))))))
    (pss_one (ps_ret pe_bl)))), ?_⟩
    refine rd_startE (show start N_law [.ref a] = [some (.ref a), none, none, none, none, none, none, none, none, none, none, none] from rfl) ?_
    walk_at "rd_Fa"
    intro r H0 S0 e0 _
    have row0 : RowAt K H0 r := ⟨a, sc, 0, 0, 0, e0, S0.seq ha⟩
    walk_at "rd_Fa"
    refine ⟨_, rfl, by omega, by omega, for_range (n := 3) (fun i σ H' => ∃ v2 v3 v4 v5 v6 v7 v8 v9 v10 v11, σ = [some (.ref a), some (.ref r), v2, v3, v4, v5, v6, v7, v8, v9, v10, v11] ∧ RowAt K H' r) ⟨_, _, _, _, _, _, _, _, _, _, rfl, row0⟩ ?_ ?_⟩
    · rintro i σ H1 hi ⟨v2, v3, v4, v5, v6, v7, v8, v9, v10, v11, rfl, row1⟩
      clear row0 S0 e0
      walk_at "rd_Fa"
      intro m2 H2 hm2 k2 row2
      walk_at "rd_Fa"
      intro p3 ss H3 k3 row3 q3 ok few zs z1
      have z1 := z1 (by omega)
      walk_at "rd_Fa"
      intro st H4 S4 x4
      have row4 := row3.mono S4
      walk_at "rd_Fa"
      intro b H5 S5 T5
      have row5 := row4.mono S5
      clear row1 k2 row2 k3 row3 q3 S4 x4 row4 S5
      have nk := tyL_small ok
      walk_at "rd_Fa"
      refine rd_mkReader T5 fun x h d H6 S6 nx nh nd R6 => ?_
      walk_at "rd_Fa"
      refine ⟨RgOk.of_le (by omega) (by omega) (by omega) (by omega), fun l nl => ?_⟩
      rw [rgV_zero]
      have S7 : Same H6 (upd H6 l (.lst (natV (List.range (tyL ss).length)))) := Same.new (Same.refl _) nl
      have el7 : upd H6 l (.lst (natV (List.range (tyL ss).length))) l = some (.lst (natV ((List.range (tyL ss).length).map id))) := by rw [upd_same, List.map_id]
      revert S7 el7
      generalize upd H6 l (.lst (natV (List.range (tyL ss).length))) = H7
      intro S7 el7
      have nl7 : l ∉ [x, h, d] := fun z => by
        obtain ⟨i6, r6⟩ := R6
        simp only [List.mem_cons, List.not_mem_nil, or_false] at z
        rcases z with rfl | rfl | rfl
        · have := r6.ins; rw [nl] at this; cases this
        · have := r6.hl; rw [nl] at this; cases this
        · have := r6.dl; rw [nl] at this; cases this
      have hs7 : Hs K CText CPart CKeyReader H5 H7 r b x h d ss id [] [] := ⟨Kp.same (S6.trans S7), row5, (row5.mono S6).mono S7, T5, nx, nh, nd, R6.same S7⟩
      walk_at "rd_Fa"
      intro q8 H8 S8 e8 _
      refine rd_gtup (SqT.of e8) rfl ?_
      have hs8 := hs7.same S8
      have el8 := S8 _ _ el7
      clear R6 S6 S7 S8 e8 hs7 el7 nl
      walk_at "rd_Fa"
      refine ⟨_, rfl, by omega, by omega, for_range (n := 4) (fun j σ H' => ∃ v6 v7 v8 v9 v10 v11 l f ls ob, σ = [some (.ref a), some (.ref r), some (.int (0 + (i : Nat))), some (.ref b), some (.ref x), some (.ref l), v6, v7, v8, v9, v10, v11] ∧ Hs K CText CPart CKeyReader H5 H' r b x h d ss f ls ob ∧ H' l = some (.lst (natV ((List.range (tyL ss).length).map f))) ∧ l ∉ [x, h, d] ∧ Tru ss f ls ∧ ob.length ≤ j) ⟨_, _, _, _, _, _, l, id, [], [], rfl, hs8, el8, nl7, Tru.start, Nat.le_refl _⟩ ?_ ?_⟩
      · rintro j σ H9 hj ⟨v6, v7, v8, v9, v10, v11, l, f, ls, ob, rfl, hs9, el9, nl9, tr, lo⟩
        clear hs8 el8 nl7
        walk_at "rd_Fa"
        refine ⟨H5, r, b, x, h, d, l, ss, f, ls, ob, rfl, hs9, el9, nl9, tr, by omega, by omega, by omega, fun H10 l' f' ls' ob' hs' e' n' t' lo' => ?_⟩
        walk_at "rd_Fa"
        refine ⟨x, h, d, b, l', ss, f', ls', ob', rfl, hs'.rd, hs'.txt, e', t', by omega, fun H11 S11 => ?_⟩
        walk_at "rd_Fa"
        exact ⟨_, _, _, _, _, _, l', f', ls', ob', rfl, hs'.same S11, S11 _ _ e', n', t', by omega⟩
      · rintro σ H9 ⟨v6, v7, v8, v9, v10, v11, l, f, ls, ob, rfl, hs9, el9, nl9, tr, lo⟩
        clear hs8 el8 nl7
        have roots := hs9.rd.roots
        have asc := openH_asc f ls (tyL ss).length
        walk_at "rd_Fa"
        refine ⟨hs9.rd.insM, ?_⟩
        walk_at "rd_Fa"
        refine ⟨x, h, d, ss, f, ls, ob, 113, rfl, hs9.rd, by decide, by decide, fun z H10 S10 T10 => ?_⟩
        have hs10 := hs9.same S10
        walk_at "rd_Fa"
        refine rd_rdKnownH hs10.rd fun H11 kd S11 n11 e11 => ?_
        have hs11 := hs10.same S11
        have T11 := T10.kp (.same S11)
        have el11 := S11 _ _ (S10 _ _ el9)
        have xt11 := hs11.txt
        clear hs9 hs10 el9 T10 S10 n11 S11
        walk_at "rd_Fa"
        rw [List.length_map, List.length_range]
        refine ⟨_, rfl, by omega, by omega, fun D hD => lc_fun (n := (tyL ss).length) (it := fun i => .int (0 + (i : Nat))) (by rw [Int.toNat_natCast]; exact plain_rng) hD (by rw [sizeLine_eq]; omega) (fun _ => rfl) (fun k => .str ⟨#[(gL ls (f k)).getD 113]⟩) (fun k H12 Q12 hk S12 qq => ?_) fun H12 S12 eD => ?_⟩
        · rw [show (0 : Int) + (k : Nat) = (k : Nat) by omega]
          walk_at "rd_Fa"
          refine rd_dget2 ?_
          walk_at "rd_Fa"
          refine ⟨.inl ⟨_, .inl (S12 _ _ e11)⟩, ?_⟩
          walk_at "rd_Fa"
          refine ⟨_, kvM_dget (S12 _ _ e11) k, ?_⟩
          rw [knownL_get, if_pos hk]
          have := qq _ (Same.refl _)
          cases e : gL ls (f k) with
          | none => rw [e] at this; exact this
          | some c => rw [e] at this; exact this
        · rw [mkS_getD] at eD
          have hs12 := hs11.same S12
          have T12 := T11.kp (.same S12)
          have el12 := S12 _ _ el11
          have e12 := S12 _ _ e11
          have xt12 := hs12.txt
          clear hs11 T11 el11 e11 xt11
          refine rd_joinS eD (by rw [List.length_map, List.length_range]; omega) ?_
          rw [withS_tyL0]
          walk_at "rd_Fa"
          rw [withS_sz, decide_eq_true rfl]
          walk_at "rd_Fa"
          refine ⟨hs12.rd.insM, ?_⟩
          walk_at "rd_Fa"
          refine ⟨x, h, d, ss, f, ls, ob, rfl, hs12.rd, fun H13 pl S13 n13 e13 => ?_⟩
          have np : pl ∉ [x, h, d] := fun z => by
            obtain ⟨i6, r6⟩ := hs12.rd
            simp only [List.mem_cons, List.not_mem_nil, or_false] at z
            rcases z with rfl | rfl | rfl
            · have := r6.ins; rw [n13] at this; cases this
            · have := r6.hl; rw [n13] at this; cases this
            · have := r6.dl; rw [n13] at this; cases this
          have hs13 := hs12.same S13
          have el13 := S13 _ _ el12
          have ek13 := S13 _ _ e12
          clear hs12 el12 e12 T12 S12 eD hD xt12 S13 n13
          walk_at "rd_Fa"
          refine rd_lenSetU ?_
          walk_at "rd_Fa"
          rw [List.length_map, List.length_range]
          refine ⟨_, rfl, by omega, by omega, fun D hD => lc_filt (f := fun k => .int (f k : Nat)) (p := fun k => (gL ls (f k)).isNone) (n := (tyL ss).length) (it := fun i => .int (0 + (i : Nat))) (by rw [Int.toNat_natCast]; exact plain_rng) hD (by rw [sizeLine_eq]; omega) (fun _ => rfl) (fun k H14 R14 hk S14 qq => ?_) (fun k H14 Q14 hk hp S14 qq => ?_) fun H14 S14 eD => ?_⟩
          · rw [show (0 : Int) + (k : Nat) = (k : Nat) by omega]
            walk_at "rd_Fa"
            refine rd_dnotin ?_
            walk_at "rd_Fa"
            refine ⟨kd, _, rfl, kvM_dget (S14 _ _ ek13) k, ?_⟩
            walk_at "rd_Fa"
            have := qq _ (Same.refl _)
            rw [knownL_get, if_pos hk]
            rw [show (!((gL ls (f k)).map fun c => V.str ⟨#[c]⟩).isSome) = (gL ls (f k)).isNone by cases gL ls (f k) <;> rfl]
            exact this
          · rw [show (0 : Int) + (k : Nat) = (k : Nat) by omega]
            walk_at "rd_Fa"
            refine rd_ixLn (v := .int (f k : Nat)) (SqL.of (S14 _ _ el13)) (natV_at hk) ?_
            exact qq _ (Same.refl _)
          · refine ⟨D, ((List.range (tyL ss).length).filter fun k => (gL ls (f k)).isNone).map fun k => ((f k : Nat) : Int), rfl, SqL.of (by rw [eD, List.map_map]; rfl), ?_, ?_⟩
            · rw [List.length_map]
              have := List.length_filter_le (fun k => (gL ls (f k)).isNone) (List.range (tyL ss).length)
              rw [List.length_range] at this
              omega
            rw [open_count roots]
            have hs14 := hs13.same S14
            have el14 := S14 _ _ el13
            have e14 := S14 _ _ e13
            clear hs13 el13 ek13 e13 S14 eD hD
            have Lasc : ((openH f ls (tyL ss).length).map (fstP ss)).Pairwise (· < ·) := pw_map asc (fun x hx => openH_lt hx) fun j k => fstP_lt ss 0 ok j k
            walk_at "rd_Fa"
            rw [List.length_map, decide_eq_true rfl]
            walk_at "rd_Fa"
            refine rd_sortNatN e14 Lasc fun p15 H15 S15 n15 e15 => ?_
            refine rd_neNN (S15 _ _ e14) e15 ?_
            rw [decide_eq_true rfl]
            have hs15 := hs14.same S15
            have el15 := S15 _ _ el14
            have ep15 := S15 _ _ e14
            clear hs14 el14 e14 S15 n15 e15
            have Olen := openH_len' f ls (tyL ss).length
            obtain ⟨O, hO⟩ : ∃ O, openH f ls (tyL ss).length = O := ⟨_, rfl⟩
            rw [hO] at ep15 Olen
            walk_at "rd_Fa"
            refine for_plain (n := O.length) (it := fun i => .int ((O.map (fstP ss))[i]?.getD 0 : Nat)) (fun j σ H' => ∃ v9 v11 ls' ob', σ = [some (.ref a), some (.ref r), some (.int (0 + (i : Nat))), some (.ref b), some (.ref x), some (.ref l), v6, some (.ref z), some (.ref kd), v9, some (.ref pl), v11] ∧ Hs K CText CPart CKeyReader H5 H' r b x h d ss f ls' ob' ∧ H' l = some (.lst (natV ((List.range (tyL ss).length).map f))) ∧ H' pl = some (.lst (natV (O.map (fstP ss)))) ∧ Tru ss f ls' ∧ openH f ls' (tyL ss).length = O.drop j ∧ ob'.length ≤ 4 + j) ⟨_, _, ls, ob, rfl, hs15, el15, ep15, tr, hO, lo⟩ (fun j σ H' _ h => ?_) ?_ ?_
            · obtain ⟨_, _, _, _, _, _, _, ep, _⟩ := h
              have P := plain_nat (K := K) ep
              rw [List.length_map] at P
              exact P
            · rintro j σ H16 hj ⟨v9, v11, ls', ob', rfl, hs16, el16, ep16, tr', op, lo'⟩
              clear hs15 el15 ep15
              have hd : O.drop j = O[j] :: O.drop (j + 1) := List.drop_eq_getElem_cons hj
              rw [hd] at op
              have hm : O[j] ∈ openH f ls' (tyL ss).length := by rw [op]; exact List.mem_cons_self
              have kn := open_known hm
              obtain ⟨o1, o2, o3⟩ := mem_openH.mp hm
              obtain ⟨f1, f2⟩ := fstP_at ok o1
              have xt16 := hs16.txt
              have et : (O.map (fstP ss))[j]?.getD 0 = fstP ss O[j] := by rw [List.getElem?_map, List.getElem?_eq_getElem hj]; rfl
              have la := lat_let ok o1
              obtain ⟨k, hk⟩ : ∃ k, O[j] = k := ⟨_, rfl⟩
              rw [hk] at f1 f2 o1 o2 o3 et op la
              obtain ⟨fp, hfp⟩ : ∃ fp, fstP ss k = fp := ⟨_, rfl⟩
              rw [hfp] at f1 f2 et
              rw [et]
              walk_at "rd_Fa"
              refine rd_rdKnownH hs16.rd fun H17 p17 S17 n17 e17 => ?_
              have hs17 := hs16.same S17
              have el17 := S17 _ _ el16
              have ep17 := S17 _ _ ep16
              have xt17 := hs17.txt
              clear hs16 el16 ep16 xt16
              walk_at "rd_Fa"
              refine rd_lenKn e17 ?_
              rw [knownL_N]
              walk_at "rd_Fa"
              rw [List.length_map, List.length_range, decide_eq_false (by omega)]
              walk_at "rd_Fa"
              refine ⟨hs17.rd.insM, ?_⟩
              walk_at "rd_Fa"
              rw [Int.toNat_natCast, f2]
              refine ⟨x, h, d, ss, f, ls', ob', fp, _, rfl, hs17.rd, f1, la.1, la.2, (fun c' hc => by rw [f2, o2, o3] at hc; cases hc), by omega, fun H18 B18 R18 => ?_⟩
              rw [f2, o2] at R18
              have := tr'.see o1
              rw [o2] at this
              exact ⟨_, _, _, _, rfl, hs17.bt B18 R18, B18 _ _ nl9 el17, B18 _ _ np ep17, this, openH_put op, by rw [List.length_append]; show ob'.length + 1 ≤ _; omega⟩
            · rintro σ H16 ⟨v9, v11, ls', ob', rfl, hs16, el16, ep16, tr', op, lo'⟩
              clear hs15 el15 ep15
              rw [List.drop_length] at op
              walk_at "rd_Fa"
              refine ⟨hs16.rd.insM, ?_⟩
              walk_at "rd_Fa"
              refine ⟨x, h, d, ss, f, ls', ob', rfl, hs16.rd, fun H17 S17 => ?_⟩
              have hs17 := hs16.same S17
              rw [op]
              clear hs16 el16 ep16
              walk_at "rd_Fa"
              refine ⟨hs17.rd.insM, ?_⟩
              walk_at "rd_Fa"
              refine ⟨x, h, d, ss, f, ls', ob', rfl, hs17.rd, fun H18 p18 S18 n18 e18 => ?_⟩
              have hs18 := hs17.same S18
              rw [op] at e18
              clear hs17
              walk_at "rd_Fa"
              intro p19 H19 S19 e19 _
              refine rd_ne_same (n := 1) (d := .list []) (.lst (SqL.of (S19 _ _ e18)) .nil) (.lst (SqL.of e19) .nil) (.lst fun d hd => by cases hd) (by decide) ?_
              have hs19 := hs18.same S19
              clear hs18 e18 S18 S19 e19
              walk_at "rd_Fa"
              refine ⟨hs19.rd.insM, ?_⟩
              walk_at "rd_Fa"
              refine ⟨x, h, d, ss, f, ls', ob', 122, rfl, hs19.rd, by decide, by decide, fun y H20 S20 T20 => ?_⟩
              have hs20 := hs19.same S20
              rw [withS_id ss 0 fun i hi => by rw [Nat.zero_add, tr'.all roots op hi]; rfl] at T20
              walk_at "rd_Fa"
              refine rd_opEq T20 hs20.txt ?_
              rw [decide_eq_true rfl]
              walk_at "rd_Fa"
              exact ⟨_, _, _, _, _, _, _, _, _, _, rfl, hs20.row⟩
    · rintro σ H1 ⟨v2, v3, v4, v5, v6, v7, v8, v9, v10, v11, rfl, row1⟩
      walk_at "rd_Fa"
      exact k _
end
theorem bf_is_integer : BF "is_integer" "is_integer" s_is_integer ["value", "low", "high"] := fun _ _ _ _ _ _ us hl => match us, hl with | [_, _, _], _ => rfl
theorem bf_is_letter : BF "is_letter" "is_letter" s_is_letter ["value"] := fun _ _ _ _ _ _ us hl => match us, hl with | [_], _ => rfl
theorem bf_is_word : BF "is_word" "is_word" s_is_word ["value"] := fun _ _ _ _ _ _ us hl => match us, hl with | [_], _ => rfl
theorem bf_is_step : BF "is_step" "is_step" s_is_step ["value", "size"] := fun _ _ _ _ _ _ us hl => match us, hl with | [_, _], _ => rfl
theorem bf_Part_init : BF "__init__" "Part.__init__" s_Part_init ["self", "start", "length", "is_typed", "first", "last"] := fun _ _ _ _ _ _ us hl => match us, hl with | [_, _, _, _, _, _], _ => rfl
theorem bf_Part_source : BF "source" "Part.source" s_Part_source ["self", "place"] := fun _ _ _ _ _ _ us hl => match us, hl with | [_, _], _ => rfl
theorem bf_Text_init : BFS "__init__" "Text.__init__" s_Text_init ["self"] "steps" := fun _ _ _ _ _ _ us rest hl => match us, rest, hl with | [_], [], _ => rfl | [_], _ :: _, _ => rfl
theorem bf_Text_of_steps : BF "of_steps" "Text.of_steps" s_Text_of_steps ["cls", "steps"] := fun _ _ _ _ _ _ us hl => match us, hl with | [_, _], _ => rfl
theorem bf_Text_steps : BF "steps" "Text.steps" s_Text_steps ["self"] := fun _ _ _ _ _ _ us hl => match us, hl with | [_], _ => rfl
theorem bf_Text_typed_keys : BF "typed_keys" "Text.typed_keys" s_Text_typed_keys ["self"] := fun _ _ _ _ _ _ us hl => match us, hl with | [_], _ => rfl
theorem bf_Text_size : BF "size" "Text.size" s_Text_size ["self"] := fun _ _ _ _ _ _ us hl => match us, hl with | [_], _ => rfl
theorem bf_Text_check_place : BF "check_place" "Text.check_place" s_Text_check_place ["self", "place"] := fun _ _ _ _ _ _ us hl => match us, hl with | [_, _], _ => rfl
theorem bf_Text_key_of : BF "key_of" "Text.key_of" s_Text_key_of ["self", "place"] := fun _ _ _ _ _ _ us hl => match us, hl with | [_, _], _ => rfl
theorem bf_Text_call : BF "__call__" "Text.__call__" s_Text_call ["self", "place"] := fun _ _ _ _ _ _ us hl => match us, hl with | [_, _], _ => rfl
theorem bf_Text_getitem : BF "__getitem__" "Text.__getitem__" s_Text_getitem ["self", "place"] := fun _ _ _ _ _ _ us hl => match us, hl with | [_, _], _ => rfl
theorem bf_Text_eq : BF "__eq__" "Text.__eq__" s_Text_eq ["self", "other"] := fun _ _ _ _ _ _ us hl => match us, hl with | [_, _], _ => rfl
theorem bf_x_law_taken : BF "_law_taken" "_law_taken" s_x_law_taken ["_law_row", "_law_many"] := fun _ _ _ _ _ _ us hl => match us, hl with | [_, _], _ => rfl
theorem bf_x_law_word : BF "_law_word" "_law_word" s_x_law_word ["_law_row", "_law_most"] := fun _ _ _ _ _ _ us hl => match us, hl with | [_, _], _ => rfl
theorem bf_x_law_steps : BF "_law_steps" "_law_steps" s_x_law_steps ["_law_row", "_law_count", "_law_most"] := fun _ _ _ _ _ _ us hl => match us, hl with | [_, _, _], _ => rfl
theorem bf_check_range : BF "check_range" "check_range" s_check_range ["text", "first", "last"] := fun _ _ _ _ _ _ us hl => match us, hl with | [_, _, _], _ => rfl
theorem bf_letters_between : BF "letters_between" "letters_between" s_letters_between ["text", "first", "last"] := fun _ _ _ _ _ _ us hl => match us, hl with | [_, _, _], _ => rfl
theorem bf_KeyReader_init : BF "__init__" "KeyReader.__init__" s_KeyReader_init ["self", "text"] := fun _ _ _ _ _ _ us hl => match us, hl with | [_, _], _ => rfl
theorem bf_KeyReader_head : BF "head" "KeyReader.head" s_KeyReader_head ["self", "key"] := fun _ _ _ _ _ _ us hl => match us, hl with | [_, _], _ => rfl
theorem bf_KeyReader_accept_letter : BF "accept_letter" "KeyReader.accept_letter" s_KeyReader_accept_letter ["self", "key", "letter"] := fun _ _ _ _ _ _ us hl => match us, hl with | [_, _, _], _ => rfl
theorem bf_KeyReader_known_count : BF "known_count" "KeyReader.known_count" s_KeyReader_known_count ["self"] := fun _ _ _ _ _ _ us hl => match us, hl with | [_], _ => rfl
theorem bf_KeyReader_see : BF "see" "KeyReader.see" s_KeyReader_see ["self", "place", "letter"] := fun _ _ _ _ _ _ us hl => match us, hl with | [_, _, _], _ => rfl
theorem bf_KeyReader_known_letters : BF "known_letters" "KeyReader.known_letters" s_KeyReader_known_letters ["self"] := fun _ _ _ _ _ _ us hl => match us, hl with | [_], _ => rfl
theorem bf_KeyReader_observations : BF "observations" "KeyReader.observations" s_KeyReader_observations ["self"] := fun _ _ _ _ _ _ us hl => match us, hl with | [_], _ => rfl
theorem bf_KeyReader_open_heads : BF "open_heads" "KeyReader.open_heads" s_KeyReader_open_heads ["self"] := fun _ _ _ _ _ _ us hl => match us, hl with | [_], _ => rfl
theorem bf_KeyReader_first_place : BF "first_place" "KeyReader.first_place" s_KeyReader_first_place ["self", "head"] := fun _ _ _ _ _ _ us hl => match us, hl with | [_, _], _ => rfl
theorem bf_KeyReader_fewest_places : BF "fewest_places" "KeyReader.fewest_places" s_KeyReader_fewest_places ["self"] := fun _ _ _ _ _ _ us hl => match us, hl with | [_], _ => rfl
theorem bf_KeyReader_getitem : BF "__getitem__" "KeyReader.__getitem__" s_KeyReader_getitem ["self", "place"] := fun _ _ _ _ _ _ us hl => match us, hl with | [_, _], _ => rfl
theorem bf_KeyReader_see_word : BF "see_word" "KeyReader.see_word" s_KeyReader_see_word ["self", "first", "word"] := fun _ _ _ _ _ _ us hl => match us, hl with | [_, _, _], _ => rfl
theorem bf_KeyReader_hear_alike : BF "hear_alike" "KeyReader.hear_alike" s_KeyReader_hear_alike ["self", "place", "other"] := fun _ _ _ _ _ _ us hl => match us, hl with | [_, _, _], _ => rfl
theorem bf_KeyReader_count_texts : BF "count_texts" "KeyReader.count_texts" s_KeyReader_count_texts ["self"] := fun _ _ _ _ _ _ us hl => match us, hl with | [_], _ => rfl
theorem bf_KeyReader_is_surely_alike : BF "is_surely_alike" "KeyReader.is_surely_alike" s_KeyReader_is_surely_alike ["self", "place", "other"] := fun _ _ _ _ _ _ us hl => match us, hl with | [_, _, _], _ => rfl
theorem bf_KeyReader_text_with : BF "text_with" "KeyReader.text_with" s_KeyReader_text_with ["self", "letter"] := fun _ _ _ _ _ _ us hl => match us, hl with | [_, _], _ => rfl
theorem bf_x_law_power : BF "_law_power" "_law_power" s_x_law_power ["_law_base", "_law_count"] := fun _ _ _ _ _ _ us hl => match us, hl with | [_, _], _ => rfl
theorem bf_x_law_is_told : BF "_law_is_told" "_law_is_told" s_x_law_is_told ["_law_reader", "_law_text", "_law_tied"] := fun _ _ _ _ _ _ us hl => match us, hl with | [_, _, _], _ => rfl
theorem bf_x_law_is_seen : BF "_law_is_seen" "_law_is_seen" s_x_law_is_seen ["_law_row", "_law_reader", "_law_text", "_law_tied"] := fun _ _ _ _ _ _ us hl => match us, hl with | [_, _, _, _], _ => rfl
theorem bf_law : BF "law" "law" s_law ["_law_script"] := fun _ _ _ _ _ _ us hl => match us, hl with | [_], _ => rfl
theorem fin {l : PySem.W.OpenLaw} {w : World} {K : PySem.W.Frag} {h : Heap} {mg : Str → Option Value} {fa CText CPart CKeyReader : Addr} (X : K.In h) (G : h.Ns mainGlobals mg) (hmg : mg "law" = some (.ref fa))
    (gText : PySem.W.nsIn K mainGlobals "Text" = some (some (.ref CText)))
    (gPart : PySem.W.nsIn K mainGlobals "Part" = some (some (.ref CPart)))
    (gKeyReader : PySem.W.nsIn K mainGlobals "KeyReader" = some (some (.ref CKeyReader)))
    (T : (mg "Text" = some (.ref CText) ∧ mg "Part" = some (.ref CPart) ∧ mg "KeyReader" = some (.ref CKeyReader)) → Txt K mg CText CPart CKeyReader) :
    ∃ fd : FuncData, (∀ (s : Shared) (u : Value), BindsTo s fd ⟨[u], []⟩ [("_law_script", u)]) ∧ ∀ base : Heap, K.In base → base.Ns mainGlobals mg → FnOk l.prog w K mg base CX0 7 fa fd ["_law_script"] (sp_law K) := by
  have T := T (⟨PySem.W.mg_of X G gText, PySem.W.mg_of X G gPart, PySem.W.mg_of X G gKeyReader⟩)
  obtain ⟨f, fd, F, a, b⟩ := T.d_law
  have e := hmg.symm.trans a
  cases e
  refine ⟨fd, fun s u => ?_, fun base _ _ => ok_law T F⟩
  obtain ⟨oc, od, kV, doc, pm, an, cdv, ct, osl, rfl, lk, hcd⟩ := F.ex
  exact .of_eq (bf_law kV doc pm an cdv ct [u] rfl)
end L2.Px
open PySem PySem.W PyProof.Rows
set_option maxRecDepth 100000 in
set_option maxHeartbeats 0 in
theorem PySem.Challenge.cw_pastekeys_k15_whole_readers_keep_the_tru_holds : PySem.Challenge.rw_pastekeys_k15_whole_readers_keep_the_tru.Holds := by
  w_on; o_law; k_headL; (case hw => w_witness2)
  k_fill
  refine L2.Px.walk_ofX (l := PySem.Challenge.rw_pastekeys_k15_whole_readers_keep_the_tru) (k := 7) (x := "_law_script") rfl (by decide) rfl ⟨rfl, by decide, by decide⟩ (fun w h Y => PySem.W.kIn_of Y) ?F
  case F =>
    intro w mg fa h KX G XL hmg
    refine' L2.Px.fin KX G hmg ?gText ?gPart ?gKeyReader ?t
    (case gText => k_is)
    (case gPart => k_is)
    (case gKeyReader => k_is)
    case t =>
      intro gg
      obtain ⟨qText, qPart, qKeyReader⟩ := gg
      refine' L2.Px.Txt.mk ?d_is_integer ?d_is_letter ?d_is_word ?d_is_step ?d_Part_init ?d_Part_source ?d_Text_init ?d_Text_of_steps ?d_Text_steps ?d_Text_typed_keys ?d_Text_size ?d_Text_check_place ?d_Text_key_of ?d_Text_call ?d_Text_getitem ?d_Text_eq ?d_x_law_taken ?d_x_law_word ?d_x_law_steps ?d_check_range ?d_letters_between ?d_KeyReader_init ?d_KeyReader_head ?d_KeyReader_accept_letter ?d_KeyReader_known_count ?d_KeyReader_see ?d_KeyReader_known_letters ?d_KeyReader_observations ?d_KeyReader_open_heads ?d_KeyReader_first_place ?d_KeyReader_fewest_places ?d_KeyReader_getitem ?d_KeyReader_see_word ?d_KeyReader_hear_alike ?d_KeyReader_count_texts ?d_KeyReader_is_surely_alike ?d_KeyReader_text_with ?d_x_law_power ?d_x_law_is_told ?d_x_law_is_seen ?d_law ?cText ?g_Text ?cPart ?g_Part ?cKeyReader ?g_KeyReader ?ne_Text_Part ?ne_Text_KeyReader ?ne_Part_KeyReader ?na_Part_start ?na_Part_length ?na_Part_is_typed ?na_Part_first ?na_Part_last ?na_Text_made ?na_Text_typed ?na_Text_parts ?na_Text_total ?na_KeyReader_source_text ?na_KeyReader_heads ?na_KeyReader_letters ?na_KeyReader_seen ?k_LETTERS ?k_MAX_WORD ?k_MAX_STEPS ?k_MAX_TIMES ?k_MAX_SIZE_texts ?k_MAX_LISTED ?cg_Text ?isi_oo ?isi_to ?n_isinstance ?n_int ?n_bool ?n_str ?n_len ?n_all ?n_tuple ?n_list ?n_range ?n_enumerate ?n_min ?n_max ?n_sorted ?n_dict ?n_set
      (case d_is_integer => open L2 L2.Px StX ClX in (refine' defG_mk KX G ?a ?l ?k ?b; (case a => k_is); (case l => (refine' atF ?l1 ?l2; (case l1 => k_is); (case l2 => k_is))); (case k => k_is); (case b => exact bf_is_integer)))
      (case d_is_letter => open L2 L2.Px StX ClX in (refine' defG_mk KX G ?a ?l ?k ?b; (case a => k_is); (case l => (refine' atF ?l1 ?l2; (case l1 => k_is); (case l2 => k_is))); (case k => k_is); (case b => exact bf_is_letter)))
      (case d_is_word => open L2 L2.Px StX ClX in (refine' defG_mk KX G ?a ?l ?k ?b; (case a => k_is); (case l => (refine' atF ?l1 ?l2; (case l1 => k_is); (case l2 => k_is))); (case k => k_is); (case b => exact bf_is_word)))
      (case d_is_step => open L2 L2.Px StX ClX in (refine' defG_mk KX G ?a ?l ?k ?b; (case a => k_is); (case l => (refine' atF ?l1 ?l2; (case l1 => k_is); (case l2 => k_is))); (case k => k_is); (case b => exact bf_is_step)))
      (case d_Part_init => open L2 L2.Px StX ClX in (refine' defK_mk ?mk ?a ?fn ?kc ?l ?k ?b; (case mk => k_is); (case a => k_is); (case fn => k_is); (case kc => k_is); (case l => (refine' atF ?l1 ?l2; (case l1 => k_is); (case l2 => k_is))); (case k => k_is); (case b => exact bf_Part_init)))
      (case d_Part_source => open L2 L2.Px StX ClX in (refine' defM_mk ?a ?fn ?l ?k ?b; (case a => k_is); (case fn => k_is); (case l => (refine' atF ?l1 ?l2; (case l1 => k_is); (case l2 => k_is))); (case k => k_is); (case b => exact bf_Part_source)))
      (case d_Text_init => open L2 L2.Px StX ClX in (refine' defKS_mk ?mk ?a ?fn ?kc ?l ?k ?b; (case mk => k_is); (case a => k_is); (case fn => k_is); (case kc => k_is); (case l => (refine' atF ?l1 ?l2; (case l1 => k_is); (case l2 => k_is))); (case k => k_is); (case b => exact bf_Text_init)))
      (case d_Text_of_steps => open L2 L2.Px StX ClX in (refine' defC_mk (mc := .type "type") ?rd ?ga ?a ?r ?fi ?l ?k ?b; (case rd => k_is); (case ga => k_is); (case a => k_is); (case r => k_is); (case fi => k_is); (case l => (refine' atF ?l1 ?l2; (case l1 => k_is); (case l2 => k_is))); (case k => k_is); (case b => exact bf_Text_of_steps)))
      (case d_Text_steps => open L2 L2.Px StX ClX in (refine' defP_mk ?a ?g ?t ?r ?l ?k ?b; (case a => k_is); (case g => k_is); (case t => k_is); (case r => k_is); (case l => (refine' atF ?l1 ?l2; (case l1 => k_is); (case l2 => k_is))); (case k => k_is); (case b => exact bf_Text_steps)))
      (case d_Text_typed_keys => open L2 L2.Px StX ClX in (refine' defP_mk ?a ?g ?t ?r ?l ?k ?b; (case a => k_is); (case g => k_is); (case t => k_is); (case r => k_is); (case l => (refine' atF ?l1 ?l2; (case l1 => k_is); (case l2 => k_is))); (case k => k_is); (case b => exact bf_Text_typed_keys)))
      (case d_Text_size => open L2 L2.Px StX ClX in (refine' defP_mk ?a ?g ?t ?r ?l ?k ?b; (case a => k_is); (case g => k_is); (case t => k_is); (case r => k_is); (case l => (refine' atF ?l1 ?l2; (case l1 => k_is); (case l2 => k_is))); (case k => k_is); (case b => exact bf_Text_size)))
      (case d_Text_check_place => open L2 L2.Px StX ClX in (refine' defM_mk ?a ?fn ?l ?k ?b; (case a => k_is); (case fn => k_is); (case l => (refine' atF ?l1 ?l2; (case l1 => k_is); (case l2 => k_is))); (case k => k_is); (case b => exact bf_Text_check_place)))
      (case d_Text_key_of => open L2 L2.Px StX ClX in (refine' defM_mk ?a ?fn ?l ?k ?b; (case a => k_is); (case fn => k_is); (case l => (refine' atF ?l1 ?l2; (case l1 => k_is); (case l2 => k_is))); (case k => k_is); (case b => exact bf_Text_key_of)))
      (case d_Text_call => open L2 L2.Px StX ClX in (refine' defX_mk ?r ?l ?k ?b; (case r => (refine' CallO.mk ?r1 ?r2 ?r3; (case r1 => k_is); (case r2 => k_is); (case r3 => k_is))); (case l => (refine' atF ?l1 ?l2; (case l1 => k_is); (case l2 => k_is))); (case k => k_is); (case b => exact bf_Text_call)))
      (case d_Text_getitem => open L2 L2.Px StX ClX in (refine' defX_mk ?r ?l ?k ?b; (case r => (refine' IOwn.mk ?r1 ?r2 ?r3; (case r1 => k_is); (case r2 => k_is); (case r3 => k_is))); (case l => (refine' atF ?l1 ?l2; (case l1 => k_is); (case l2 => k_is))); (case k => k_is); (case b => exact bf_Text_getitem)))
      (case d_Text_eq => open L2 L2.Px StX ClX in (refine' defX_mk ?r ?l ?k ?b; (case r => (refine' EOwn.mk ?r1 ?r2 ?r3 ?r4 ?r5 ?r6; (case r1 => k_is); (case r2 => k_is); (case r3 => k_is); (case r4 => k_is); (case r5 => k_is); (case r6 => k_is))); (case l => (refine' atF ?l1 ?l2; (case l1 => k_is); (case l2 => k_is))); (case k => k_is); (case b => exact bf_Text_eq)))
      (case d_x_law_taken => open L2 L2.Px StX ClX in (refine' defG_mk KX G ?a ?l ?k ?b; (case a => k_is); (case l => (refine' atF ?l1 ?l2; (case l1 => k_is); (case l2 => k_is))); (case k => k_is); (case b => exact bf_x_law_taken)))
      (case d_x_law_word => open L2 L2.Px StX ClX in (refine' defG_mk KX G ?a ?l ?k ?b; (case a => k_is); (case l => (refine' atF ?l1 ?l2; (case l1 => k_is); (case l2 => k_is))); (case k => k_is); (case b => exact bf_x_law_word)))
      (case d_x_law_steps => open L2 L2.Px StX ClX in (refine' defG_mk KX G ?a ?l ?k ?b; (case a => k_is); (case l => (refine' atF ?l1 ?l2; (case l1 => k_is); (case l2 => k_is))); (case k => k_is); (case b => exact bf_x_law_steps)))
      (case d_check_range => open L2 L2.Px StX ClX in (refine' defG_mk KX G ?a ?l ?k ?b; (case a => k_is); (case l => (refine' atF ?l1 ?l2; (case l1 => k_is); (case l2 => k_is))); (case k => k_is); (case b => exact bf_check_range)))
      (case d_letters_between => open L2 L2.Px StX ClX in (refine' defG_mk KX G ?a ?l ?k ?b; (case a => k_is); (case l => (refine' atF ?l1 ?l2; (case l1 => k_is); (case l2 => k_is))); (case k => k_is); (case b => exact bf_letters_between)))
      (case d_KeyReader_init => open L2 L2.Px StX ClX in (refine' defK_mk ?mk ?a ?fn ?kc ?l ?k ?b; (case mk => k_is); (case a => k_is); (case fn => k_is); (case kc => k_is); (case l => (refine' atF ?l1 ?l2; (case l1 => k_is); (case l2 => k_is))); (case k => k_is); (case b => exact bf_KeyReader_init)))
      (case d_KeyReader_head => open L2 L2.Px StX ClX in (refine' defM_mk ?a ?fn ?l ?k ?b; (case a => k_is); (case fn => k_is); (case l => (refine' atF ?l1 ?l2; (case l1 => k_is); (case l2 => k_is))); (case k => k_is); (case b => exact bf_KeyReader_head)))
      (case d_KeyReader_accept_letter => open L2 L2.Px StX ClX in (refine' defM_mk ?a ?fn ?l ?k ?b; (case a => k_is); (case fn => k_is); (case l => (refine' atF ?l1 ?l2; (case l1 => k_is); (case l2 => k_is))); (case k => k_is); (case b => exact bf_KeyReader_accept_letter)))
      (case d_KeyReader_known_count => open L2 L2.Px StX ClX in (refine' defM_mk ?a ?fn ?l ?k ?b; (case a => k_is); (case fn => k_is); (case l => (refine' atF ?l1 ?l2; (case l1 => k_is); (case l2 => k_is))); (case k => k_is); (case b => exact bf_KeyReader_known_count)))
      (case d_KeyReader_see => open L2 L2.Px StX ClX in (refine' defM_mk ?a ?fn ?l ?k ?b; (case a => k_is); (case fn => k_is); (case l => (refine' atF ?l1 ?l2; (case l1 => k_is); (case l2 => k_is))); (case k => k_is); (case b => exact bf_KeyReader_see)))
      (case d_KeyReader_known_letters => open L2 L2.Px StX ClX in (refine' defP_mk ?a ?g ?t ?r ?l ?k ?b; (case a => k_is); (case g => k_is); (case t => k_is); (case r => k_is); (case l => (refine' atF ?l1 ?l2; (case l1 => k_is); (case l2 => k_is))); (case k => k_is); (case b => exact bf_KeyReader_known_letters)))
      (case d_KeyReader_observations => open L2 L2.Px StX ClX in (refine' defP_mk ?a ?g ?t ?r ?l ?k ?b; (case a => k_is); (case g => k_is); (case t => k_is); (case r => k_is); (case l => (refine' atF ?l1 ?l2; (case l1 => k_is); (case l2 => k_is))); (case k => k_is); (case b => exact bf_KeyReader_observations)))
      (case d_KeyReader_open_heads => open L2 L2.Px StX ClX in (refine' defM_mk ?a ?fn ?l ?k ?b; (case a => k_is); (case fn => k_is); (case l => (refine' atF ?l1 ?l2; (case l1 => k_is); (case l2 => k_is))); (case k => k_is); (case b => exact bf_KeyReader_open_heads)))
      (case d_KeyReader_first_place => open L2 L2.Px StX ClX in (refine' defM_mk ?a ?fn ?l ?k ?b; (case a => k_is); (case fn => k_is); (case l => (refine' atF ?l1 ?l2; (case l1 => k_is); (case l2 => k_is))); (case k => k_is); (case b => exact bf_KeyReader_first_place)))
      (case d_KeyReader_fewest_places => open L2 L2.Px StX ClX in (refine' defM_mk ?a ?fn ?l ?k ?b; (case a => k_is); (case fn => k_is); (case l => (refine' atF ?l1 ?l2; (case l1 => k_is); (case l2 => k_is))); (case k => k_is); (case b => exact bf_KeyReader_fewest_places)))
      (case d_KeyReader_getitem => open L2 L2.Px StX ClX in (refine' defX_mk ?r ?l ?k ?b; (case r => (refine' IOwn.mk ?r1 ?r2 ?r3; (case r1 => k_is); (case r2 => k_is); (case r3 => k_is))); (case l => (refine' atF ?l1 ?l2; (case l1 => k_is); (case l2 => k_is))); (case k => k_is); (case b => exact bf_KeyReader_getitem)))
      (case d_KeyReader_see_word => open L2 L2.Px StX ClX in (refine' defM_mk ?a ?fn ?l ?k ?b; (case a => k_is); (case fn => k_is); (case l => (refine' atF ?l1 ?l2; (case l1 => k_is); (case l2 => k_is))); (case k => k_is); (case b => exact bf_KeyReader_see_word)))
      (case d_KeyReader_hear_alike => open L2 L2.Px StX ClX in (refine' defM_mk ?a ?fn ?l ?k ?b; (case a => k_is); (case fn => k_is); (case l => (refine' atF ?l1 ?l2; (case l1 => k_is); (case l2 => k_is))); (case k => k_is); (case b => exact bf_KeyReader_hear_alike)))
      (case d_KeyReader_count_texts => open L2 L2.Px StX ClX in (refine' defM_mk ?a ?fn ?l ?k ?b; (case a => k_is); (case fn => k_is); (case l => (refine' atF ?l1 ?l2; (case l1 => k_is); (case l2 => k_is))); (case k => k_is); (case b => exact bf_KeyReader_count_texts)))
      (case d_KeyReader_is_surely_alike => open L2 L2.Px StX ClX in (refine' defM_mk ?a ?fn ?l ?k ?b; (case a => k_is); (case fn => k_is); (case l => (refine' atF ?l1 ?l2; (case l1 => k_is); (case l2 => k_is))); (case k => k_is); (case b => exact bf_KeyReader_is_surely_alike)))
      (case d_KeyReader_text_with => open L2 L2.Px StX ClX in (refine' defM_mk ?a ?fn ?l ?k ?b; (case a => k_is); (case fn => k_is); (case l => (refine' atF ?l1 ?l2; (case l1 => k_is); (case l2 => k_is))); (case k => k_is); (case b => exact bf_KeyReader_text_with)))
      (case d_x_law_power => open L2 L2.Px StX ClX in (refine' defG_mk KX G ?a ?l ?k ?b; (case a => k_is); (case l => (refine' atF ?l1 ?l2; (case l1 => k_is); (case l2 => k_is))); (case k => k_is); (case b => exact bf_x_law_power)))
      (case d_x_law_is_told => open L2 L2.Px StX ClX in (refine' defG_mk KX G ?a ?l ?k ?b; (case a => k_is); (case l => (refine' atF ?l1 ?l2; (case l1 => k_is); (case l2 => k_is))); (case k => k_is); (case b => exact bf_x_law_is_told)))
      (case d_x_law_is_seen => open L2 L2.Px StX ClX in (refine' defG_mk KX G ?a ?l ?k ?b; (case a => k_is); (case l => (refine' atF ?l1 ?l2; (case l1 => k_is); (case l2 => k_is))); (case k => k_is); (case b => exact bf_x_law_is_seen)))
      (case d_law => open L2 L2.Px StX ClX in (refine' defG_mk KX G ?a ?l ?k ?b; (case a => k_is); (case l => (refine' atF ?l1 ?l2; (case l1 => k_is); (case l2 => k_is))); (case k => k_is); (case b => exact bf_law)))
      (case cText => (refine' L2.Cls.mk ?a1 ?a2 ?a3 ?a4; (case a1 => k_is); (case a2 => k_is); (case a3 => k_is); (case a4 => k_is)))
      (case g_Text => exact qText)
      (case cPart => (refine' L2.Cls.mk ?a1 ?a2 ?a3 ?a4; (case a1 => k_is); (case a2 => k_is); (case a3 => k_is); (case a4 => k_is)))
      (case g_Part => exact qPart)
      (case cKeyReader => (refine' L2.Cls.mk ?a1 ?a2 ?a3 ?a4; (case a1 => k_is); (case a2 => k_is); (case a3 => k_is); (case a4 => k_is)))
      (case g_KeyReader => exact qKeyReader)
      (case ne_Text_Part => decide)
      (case ne_Text_KeyReader => decide)
      (case ne_Part_KeyReader => decide)
      (case na_Part_start => (unfold L2.NoAttr; k_is))
      (case na_Part_length => (unfold L2.NoAttr; k_is))
      (case na_Part_is_typed => (unfold L2.NoAttr; k_is))
      (case na_Part_first => (unfold L2.NoAttr; k_is))
      (case na_Part_last => (unfold L2.NoAttr; k_is))
      (case na_Text_made => (unfold L2.NoAttr; k_is))
      (case na_Text_typed => (unfold L2.NoAttr; k_is))
      (case na_Text_parts => (unfold L2.NoAttr; k_is))
      (case na_Text_total => (unfold L2.NoAttr; k_is))
      (case na_KeyReader_source_text => (unfold L2.NoAttr; k_is))
      (case na_KeyReader_heads => (unfold L2.NoAttr; k_is))
      (case na_KeyReader_letters => (unfold L2.NoAttr; k_is))
      (case na_KeyReader_seen => (unfold L2.NoAttr; k_is))
      (case k_LETTERS => (refine' L2.Px.const_str KX G ?a; (case a => k_is)))
      (case k_MAX_WORD => first | exact L2.Px.loose_int XL (.head _) | exact L2.Px.loose_int XL (.tail _ (.head _)) | exact L2.Px.loose_int XL (.tail _ (.tail _ (.head _))) | exact L2.Px.loose_int XL (.tail _ (.tail _ (.tail _ (.head _)))) | (refine' L2.Px.const_int KX G ?a; (case a => k_is)))
      (case k_MAX_STEPS => first | exact L2.Px.loose_int XL (.head _) | exact L2.Px.loose_int XL (.tail _ (.head _)) | exact L2.Px.loose_int XL (.tail _ (.tail _ (.head _))) | exact L2.Px.loose_int XL (.tail _ (.tail _ (.tail _ (.head _)))) | (refine' L2.Px.const_int KX G ?a; (case a => k_is)))
      (case k_MAX_TIMES => first | exact L2.Px.loose_int XL (.head _) | exact L2.Px.loose_int XL (.tail _ (.head _)) | exact L2.Px.loose_int XL (.tail _ (.tail _ (.head _))) | exact L2.Px.loose_int XL (.tail _ (.tail _ (.tail _ (.head _)))) | (refine' L2.Px.const_int KX G ?a; (case a => k_is)))
      (case k_MAX_SIZE_texts => first | exact L2.Px.loose_int XL (.head _) | exact L2.Px.loose_int XL (.tail _ (.head _)) | exact L2.Px.loose_int XL (.tail _ (.tail _ (.head _))) | exact L2.Px.loose_int XL (.tail _ (.tail _ (.tail _ (.head _)))) | (refine' L2.Px.const_int KX G ?a; (case a => k_is)))
      (case k_MAX_LISTED => first | exact L2.Px.loose_int XL (.head _) | exact L2.Px.loose_int XL (.tail _ (.head _)) | exact L2.Px.loose_int XL (.tail _ (.tail _ (.head _))) | exact L2.Px.loose_int XL (.tail _ (.tail _ (.tail _ (.head _)))) | (refine' L2.Px.const_int KX G ?a; (case a => k_is)))
      (case cg_Text => (refine' L2.Px.ClsG.mk ?a1 ?a2 ?a3 ?a4; (case a1 => k_is); (case a2 => k_is); (case a3 => k_is); (case a4 => k_is)))
      (case isi_oo => exact L2.Px.kit_self)
      (case isi_to => (refine' L2.Px.kit_type ?a1 ?a2 ?a3; (case a1 => k_is); (case a2 => k_is); (case a3 => k_is)))
      (case n_isinstance => (refine' PySem.W.mg_none_of KX G ?a; (case a => k_is)))
      (case n_int => (refine' PySem.W.mg_none_of KX G ?a; (case a => k_is)))
      (case n_bool => (refine' PySem.W.mg_none_of KX G ?a; (case a => k_is)))
      (case n_str => (refine' PySem.W.mg_none_of KX G ?a; (case a => k_is)))
      (case n_len => (refine' PySem.W.mg_none_of KX G ?a; (case a => k_is)))
      (case n_all => (refine' PySem.W.mg_none_of KX G ?a; (case a => k_is)))
      (case n_tuple => (refine' PySem.W.mg_none_of KX G ?a; (case a => k_is)))
      (case n_list => (refine' PySem.W.mg_none_of KX G ?a; (case a => k_is)))
      (case n_range => (refine' PySem.W.mg_none_of KX G ?a; (case a => k_is)))
      (case n_enumerate => (refine' PySem.W.mg_none_of KX G ?a; (case a => k_is)))
      (case n_min => (refine' PySem.W.mg_none_of KX G ?a; (case a => k_is)))
      (case n_max => (refine' PySem.W.mg_none_of KX G ?a; (case a => k_is)))
      (case n_sorted => (refine' PySem.W.mg_none_of KX G ?a; (case a => k_is)))
      (case n_dict => (refine' PySem.W.mg_none_of KX G ?a; (case a => k_is)))
      (case n_set => (refine' PySem.W.mg_none_of KX G ?a; (case a => k_is)))
