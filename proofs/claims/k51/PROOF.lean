import PyProof.Rows.All
import Wide.All
import OpenK.AllK
import Wide.FinOn
import KE.KOpsOwn
import HandS.ForMost
import HandS.More
import HandS.Star
import HandS.ClsMeth
import HandS.Property
import HandS.IsInst
import HandS.SetKeys
import HandS.Style
import KE.GoesMore
import PyProof.EnumMake
import HandS.Text
import PyProof.InstNe
import HandS.Conv
import HandS.TupAny
import HandS.Lambda
import HandS.Nested
import HandS.EndTab
import HandS.ForExc
import HandS.ExcInit
import HandS.ExcIs
import HandS.ExcField
import HandS.TryOnly
import KE.KDflt
import KE.KExcIs
import PyProof.Rows.CountFlat
import HandS.FStr
import HandS.EndOwn
import HandS.WideBits
import HandS.GenYield
import HandS.GenCall
import HandS.GenList
import HandS.DictComp
import HandS.SetFor
import HandS.Strs
import HandS.SortInts
import HandS.Defaults
import HandS.NoneIn
import PyProof.StrOps2
import KE.KDictZip
import KE.KRevSl
import PyProof.ListStr
import KE.KUnpackStar
import HandS.Finally
import HandS.TryElse
import HandS.HeadHook3
import HandS.WordsDict
import HandS.SetTxt0
import PyProof.Rows.SortShellAny
import HandS.ListItems
import HandS.ExcValue
import KE.OsRunLaw
import KE.HD2
import KE.KNestM
import PySem.Challenge.RW_pastekeys_k51_whole_repeated_calls
set_option Elab.async false
set_option linter.all false
set_option maxRecDepth 100000
namespace L2.Px
open PySem PySem.W PySem.Calls PyProof.Rows HeadRun
/-- the objects and the tables that the hook looks at, off the tree -/
noncomputable def obT (as ts : List Addr) (s : SharedT) : List (Option Obj) × List (Option Obj) := (as.map (getT s), ts.map (getT s))
theorem obT_eq {K : Params → Frag} {as : List Addr} {e : ∀ P, as = (K P).map (·.1)} {ts : List Addr} (s : SharedT) : obT as ts s = (kmHook K as e ts).obs s.abs := by
  have h : ∀ l : List Addr, l.map (getT s) = l.map s.abs.heap.get? := fun l => List.map_congr_left fun a _ => getT_eq s a
  show (as.map (getT s), ts.map (getT s)) = (as.map s.abs.heap.get?, ts.map s.abs.heap.get?)
  rw [h, h]
def RunB (r : OpenRow) (q : Program) (K : Params → Frag) (as ts : List Addr) (M : Nat) (loose : List PySem.Str) (row : String) (b : Bool) : Prop := ∀ (w : World) (os : OsState),
  (endF (stepQ (denQ tabQ) r.prog (w.withFollow row b)) M r.prog (w.withFollow row b) os).map (fun s => (looksF r.prog (boot_heap (w.withFollow row b).params) s.abs, seenQ q loose (importedModules r.prog.main.body) (fun s => xlAt q [] s && recOk r.toRowW.records s) s.abs, obT as ts s)) =
    some (true, openGood q loose, ((K (w.withFollow row b).params).map fun p => some p.2, ts.map fun _ => some (tabObj #[])))
theorem head_km {r : OpenRow} {q : Program} {K : Params → Frag} {as ts : List Addr} {ek : ∀ P, as = (K P).map (·.1)} {M : Nat} {loose : List PySem.Str} {d : DefRec} {kwd : List (PySem.Str × PySem.Expr)} (row : String)
    (e : opening r.prog = plainProg r.prog.main.scope.names) (f : ∀ s, fenceModules? r.prog s = some s) (run0 : RunB r q K as ts M loose row false) (run1 : RunB r q K as ts M loose row true)
    (hdef : defOf q r.name = some (d, kwd)) (hp : r.prog.theDef r.name = some (d.params, d.body, d.scope)) (hk : kwWritten? d.params.kwonlyargs d.params.kw_defaults = some kwd)
    (hwr : (!r.writes || r.records.isEmpty) = true) (k1 : r.wellSaid = true) (ok : (chainsOk q && opensWell r.prog && (frees r.toRowW && r.within.isEmpty)) = true) (hb : r.prog.bare) (hw : r.toRowW.promised)
    (call : WalkO q loose (XL q []) (kmHook K as ek ts).says r.toRowW d kwd fun f vs => PySem.call f vs) : r.Holds := by
  refine head_any (H := kmHook K as ek ts) (ob := obT as ts) (M := M) obT_eq e f (fun w os => ?_) hdef hp hk hwr k1 ok hb hw call
  have z : ∀ b, w.params.followText row = b → w.withFollow row b = w := fun b hb => by rw [← hb]; exact World.withFollow_self w row
  cases hb : w.params.followText row with
  | false =>
    have q := run0 w os
    rw [z _ hb] at q
    exact q
  | true =>
    have q := run1 w os
    rw [z _ hb] at q
    exact q
end L2.Px
namespace L2.Px
open PySem PySem.W PyProof.Rows
def topH (i : Nat) : Stmt := PySem.Challenge.pw_pastekeys_k51_whole_repeated_calls.main.body.getD i (.Pass ⟨0, 0, 0, 0⟩)
noncomputable def qv : Program := { PySem.Challenge.pw_pastekeys_k51_whole_repeated_calls with main := { PySem.Challenge.pw_pastekeys_k51_whole_repeated_calls.main with body := [topH 0, topH 1, topH 2, topH 3, topH 4, topH 5, topH 6, topH 7, topH 8, topH 9, topH 10, topH 11, topH 12, topH 13, topH 14, topH 15, topH 18, topH 19, topH 20, topH 21, topH 22, topH 24, topH 25, topH 26, topH 27, topH 28, topH 29, topH 30, topH 31, topH 33, topH 35, topH 37, topH 38, topH 39, topH 40, topH 41, topH 42, topH 43, topH 44, topH 45, topH 46] } }
def p0 : Params := { strHash := fun _ => 0, shareClass := fun a => a, mergeTok := fun t => t, idOf := fun _ => 0, idOfShared := fun _ _ => 0, followText := fun _ => false, idOfImm := fun _ => 0 }
local macro_rules | `(tactic| o_head (kmHook $K:term $as:term $e:term $ts:term)) => `(tactic| assumption)
set_option maxRecDepth 100000 in
set_option maxHeartbeats 0 in
theorem hdK (h : PySem.Challenge.rw_pastekeys_k51_whole_repeated_calls.row.Holds) : PySem.Challenge.rw_pastekeys_k51_whole_repeated_calls.Holds := by
  w_on; o_law; k_head
set_option maxRecDepth 100000 in
set_option maxHeartbeats 0 in
theorem hd_as : ∀ P, (hdK.heap_39 p0).map (·.1) = (hdK.heap_39 P).map (·.1) := fun P => by kernel_rfl
set_option maxRecDepth 100000 in
set_option maxHeartbeats 0 in
theorem hd_r0 : RunB PySem.Challenge.rw_pastekeys_k51_whole_repeated_calls.row qv hdK.heap_39 ((hdK.heap_39 p0).map (·.1)) [765] 13700 [("MAX_TIMES" : PySem.Str), ("MAX_SIZE_texts" : PySem.Str), ("Text" : PySem.Str), ("ARGUMENTS" : PySem.Str), ("Editor" : PySem.Str), ("KeyReader" : PySem.Str)] "special-get-raises" false := fun w os => by kernel_rfl
set_option maxRecDepth 100000 in
set_option maxHeartbeats 0 in
theorem hd_r1 : RunB PySem.Challenge.rw_pastekeys_k51_whole_repeated_calls.row qv hdK.heap_39 ((hdK.heap_39 p0).map (·.1)) [765] 13700 [("MAX_TIMES" : PySem.Str), ("MAX_SIZE_texts" : PySem.Str), ("Text" : PySem.Str), ("ARGUMENTS" : PySem.Str), ("Editor" : PySem.Str), ("KeyReader" : PySem.Str)] "special-get-raises" true := fun w os => by kernel_rfl
end L2.Px
set_option Elab.async false
set_option linter.all false
set_option maxRecDepth 100000
set_option maxHeartbeats 1000000
namespace L2.Px
open PySem PySem.Spec PyProof.Rows StX
/-- the def named x keeps the promise sp -/
def GOk (P : Program) (w : World) (K : PySem.W.Frag) (mg : Str → Option Value) (base : Heap) (CX : CXT) (k : Nat) (x : Str) (sp : Sp) : Prop :=
  ∃ f, FnR P w K mg base CX k f sp ∧ mg x = some (.ref f) ∧ PySem.W.keepIn K (.ref f) = true
/-- the method m of the class at C keeps the promise sp -/
def MOk (P : Program) (w : World) (K : PySem.W.Frag) (mg : Str → Option Value) (base : Heap) (CX : CXT) (k : Nat) (C : Addr) (m : Str) (sp : Sp) : Prop :=
  ∃ f, FnR P w K mg base CX k f sp ∧ Meth K C m f
/-- a def of the top, as it stands -/
def DefG (K : PySem.W.Frag) (mg : Str → Option Value) (x : Str) (st : Stmt) (ps : List Str) : Prop :=
  ∃ f fd, Fun K x x st f fd ∧ mg x = some (.ref f) ∧ Binds K fd ps []
/-- a method of the class at C, as it stands -/
def DefM (K : PySem.W.Frag) (C : Addr) (m qual : Str) (st : Stmt) (ps : List Str) : Prop :=
  ∃ f fd, Fun K m qual st f fd ∧ Meth K C m f ∧ Binds K fd ps []
section
variable {P : Program} {w : World} {K : PySem.W.Frag} {mg : Str → Option Value} {base : Heap} {CX : CXT} {k : Nat} {f C : Addr} {fd : FuncData} {ps : List Str} {sp : Sp} {x m qual : Str} {st : Stmt}
theorem FnOk.toR (F : FnOk P w K mg base CX k f fd ps sp) (hb : Binds K fd ps []) : FnR P w K mg base CX k f sp := by
  intro A outer s H us vs Q E hr e0 r h
  have hl : (us ++ ([] : List Value)).length = ps.length := by rw [List.append_nil, ← r.length]; exact F.len _ _ _ _ h
  have kin : K.In s.heap := e0.mod.kin.keeps fun b o e => (e0.bs b o e).1
  have b1 := hb s us kin hl
  rw [List.append_nil] at b1
  exact F.run A outer s H ⟨us, []⟩ us vs Q E hr e0 b1 r h
theorem FnOk.toR1 {dvs : List V} {ds : List Value} (F : FnOk P w K mg base CX k f fd ps sp) (hb : Binds K fd ps ds) (hd : Vals dvs ds) : FnR P w K mg base CX k f (fun vs => sp (vs ++ dvs)) := by
  intro A outer s H us vs Q E hr e0 r h
  have r2 : Vals (vs ++ dvs) (us ++ ds) := r.append hd
  have hl : (us ++ ds).length = ps.length := by rw [← r2.length]; exact F.len _ _ _ _ h
  have kin : K.In s.heap := e0.mod.kin.keeps fun b o e => (e0.bs b o e).1
  exact F.run A outer s H ⟨us, []⟩ (us ++ ds) (vs ++ dvs) Q E hr e0 (hb s us kin hl) r2 h
theorem GOk.mono {j : Nat} (G : GOk P w K mg base CX j x sp) (h : j ≤ k) : GOk P w K mg base CX k x sp := let ⟨f, F, a, b⟩ := G; ⟨f, F.mono h, a, b⟩
theorem MOk.mono {j : Nat} (G : MOk P w K mg base CX j C m sp) (h : j ≤ k) : MOk P w K mg base CX k C m sp := let ⟨f, F, a⟩ := G; ⟨f, F.mono h, a⟩
/-- a def that no error leaves -/
theorem DefG.ok {N : List Str} (D : DefG K mg x st ps) (S : FnScope N ps (defScope st)) (len : ∀ vs H Q E, sp vs H Q E → vs.length = ps.length)
    (hbody : ∀ (f : Addr) (cdv : Value) (A : Around) (outer : List Env) (s : Shared) (H : Hp) (vs : List V) (Q : VK) (E : XK), Room k (A.deeper (envOfC x (defScope st) s.heap.objs.size f cdv)) → sp vs H Q E →
      ∃ t, PSs (cxOf CX0 P w K mg base N x (defScope st) f cdv A outer s H E).nox (defBody st) t ∧ t { nx := fun _ H' => Q .non H', rt := Q } (start N vs) H) : GOk P w K mg base CX0 (k + 1) x sp := by
  obtain ⟨f, fd, F, a, b⟩ := D
  exact ⟨f, FnOk.toR (F.ok S len fun cdv A outer s H vs Q E hr h => hbody f cdv A outer s H vs Q E hr h) b, a, F.kp⟩
theorem DefM.ok {N : List Str} (D : DefM K C m qual st ps) (S : FnScope N ps (defScope st)) (len : ∀ vs H Q E, sp vs H Q E → vs.length = ps.length)
    (hbody : ∀ (f : Addr) (cdv : Value) (A : Around) (outer : List Env) (s : Shared) (H : Hp) (vs : List V) (Q : VK) (E : XK), Room k (A.deeper (envOfC qual (defScope st) s.heap.objs.size f cdv)) → sp vs H Q E →
      ∃ t, PSs (cxOf CX0 P w K mg base N qual (defScope st) f cdv A outer s H E).nox (defBody st) t ∧ t { nx := fun _ H' => Q .non H', rt := Q } (start N vs) H) : MOk P w K mg base CX0 (k + 1) C m sp := by
  obtain ⟨f, fd, F, a, b⟩ := D
  exact ⟨f, FnOk.toR (F.ok S len fun cdv A outer s H vs Q E hr h => hbody f cdv A outer s H vs Q E hr h) b, a⟩
end
section
variable {X : Cx} {CX : CXT} {k : Nat} {C : Addr} {sp : Sp} {E : XK} {x m : Str} {e o : Expr} {es : List Expr} {te ta : TE} {t : TA} {p pos apos : Pos}
def tG (sp : Sp) (E : XK) (t : TA) : TE := fun σ H Q => t σ H fun vs H1 => sp vs H1 Q E
theorem pe_g (G : GOk X.prog X.w X.K X.mg X.base CX k x sp) (hr : Room k X.A) (hx : Passes CX X E) (ha : PA X (e :: es) t) (hg : Gl X x := by rfl) (hd : (x == ("__debug__" : Str)) = false := by decide)
    (he : starEach (e :: es) X.env = (false, eval e X.env) :: starEach es X.env := by rfl) (hpl : (backTo pos (starEach es X.env)).any (·.1) = false := by rfl) : PE X (.Call (.Name x p) (e :: es) [] pos) (tG sp E t) := by
  obtain ⟨f, F, hm, hk⟩ := G
  refine ⟨fun pins s σ H Q I h => ?_⟩
  refine wpAny_Call_Name_kw (ld_glob I hg hm ?_ hd)
  refine PySem.W.callWith_K (h₀ := X.base) I.ok.mod.kin hk (thn (ha.run pos pins s σ H _ I h) fun us s1 ⟨vs, H1, I1, r, q⟩ => ⟨I1.kIn, ?_⟩) he hpl
  exact wpAny_call (run_fnR F hr hx I1 r q)
/-- an instance of C that has no attribute m -/
def InsM (H : Hp) (a C : Addr) (m : Str) : Prop := ∃ dx fs, H a = some (.ins C dx fs) ∧ fs.lookup m = none
def tM (C : Addr) (m : Str) (sp : Sp) (E : XK) (ta : TE) (t : TA) : TE := fun σ H Q => ta σ H fun x H1 => ∃ a, x = .ref a ∧ InsM H1 a C m ∧ t σ H1 fun vs H2 => sp (x :: vs) H2 Q E
theorem pe_m {pl : Sem Bool} (he : PE X o ta) (c : Cls X.K C) (G : MOk X.prog X.w X.K X.mg X.base CX k C m sp) (hr : Room k X.A) (hx : Passes CX X E) (ha : PA X (e :: es) t)
    (hst : starEach (e :: es) X.env = (false, eval e X.env) :: starEach es X.env := by rfl) (hpl : (backTo pos (starEach es X.env)).any (·.1) = false := by rfl)
    (ht : eval (.Call (.Attribute o m apos) (e :: es) [] pos) X.env = (do
      let ov ← eval o X.env
      standAt apos.atName
      let (f, first) ← holding [ov] (getMethod ov m pl)
      callWith pos f first (backTo pos (starEach (e :: es) X.env)) (backToKw pos (keywordEach [] X.env))) := by rfl) :
    PE X (.Call (.Attribute o m apos) (e :: es) [] pos) (tM C m sp E ta t) := by
  obtain ⟨f, F, hm⟩ := G
  refine ⟨fun pins s σ H Q I h => ?_⟩
  refine PySem.W.methodCall_KW (pl := pl) (thn (he.run pins s σ H _ I h) fun u s1 ⟨x, H1, I1, rx, a, ex, ⟨dx, fs, ea, l⟩, q⟩ => ?_) ht
  subst ex
  obtain rfl : u = Value.ref a := rx
  refine getmeth_ok I1 ea c hm l ?_
  refine PySem.W.callWith_K (first := [.ref a]) (h₀ := X.base) I.ok.mod.kin hm.kp (thn (ha.run pos pins s1 σ H1 _ I1 q) fun us s2 ⟨vs, H2, I2, r, q2⟩ => ⟨I2.kIn, ?_⟩) hst hpl
  exact wpAny_call (run_fnR (us := .ref a :: us) (vs := .ref a :: vs) F hr hx I2 (.cons rfl r) q2)
theorem pe_m0 {pl : Sem Bool} (he : PE X o ta) (c : Cls X.K C) (G : MOk X.prog X.w X.K X.mg X.base CX k C m sp) (hr : Room k X.A) (hx : Passes CX X E)
    (ht : eval (.Call (.Attribute o m apos) [] [] pos) X.env = (do
      let ov ← eval o X.env
      standAt apos.atName
      let (f, first) ← holding [ov] (getMethod ov m pl)
      callWith pos f first (backTo pos (starEach [] X.env)) (backToKw pos (keywordEach [] X.env))) := by rfl) :
    PE X (.Call (.Attribute o m apos) [] [] pos) (tM C m sp E ta tNil) := by
  obtain ⟨f, F, hm⟩ := G
  refine ⟨fun pins s σ H Q I h => ?_⟩
  refine PySem.W.methodCall_KW (pl := pl) (thn (he.run pins s σ H _ I h) fun u s1 ⟨x, H1, I1, rx, a, ex, ⟨dx, fs, ea, l⟩, q⟩ => ?_) ht
  subst ex
  obtain rfl : u = Value.ref a := rx
  refine getmeth_ok I1 ea c hm l ?_
  exact PySem.W.callWith_K0 (first := [.ref a]) I1.kIn hm.kp (wpAny_call (run_fnR (us := [.ref a]) (vs := [.ref a]) F hr hx I1 (.cons rfl .nil) q))
/-- the class at C is made by an __init__ that keeps sp -/
def KOk (P : Program) (w : World) (K : PySem.W.Frag) (mg : Str → Option Value) (base : Heap) (CX : CXT) (k : Nat) (C : Addr) (sp : Sp) : Prop :=
  ∃ f, FnR P w K mg base CX k f sp ∧ Mk K C f
theorem pe_k (G : KOk X.prog X.w X.K X.mg X.base CX k C sp) (hr : Room (k + 1) X.A) (hm : X.mg x = some (.ref C)) (hx : Passes CX X E) (ha : PA X (e :: es) t) (hg : Gl X x := by rfl) (hdb : (x == ("__debug__" : Str)) = false := by decide)
    (he : starEach (e :: es) X.env = (false, eval e X.env) :: starEach es X.env := by rfl) (hpl : (backTo pos (starEach es X.env)).any (·.1) = false := by rfl) : PE X (.Call (.Name x p) (e :: es) [] pos) (tMakeR C sp E t) :=
  let ⟨_, F, M⟩ := G
  pe_makeR M F hr hg hm hx ha hdb he hpl
theorem pe_k0 (G : KOk X.prog X.w X.K X.mg X.base CX k C sp) (hr : Room (k + 1) X.A) (hm : X.mg x = some (.ref C)) (hx : Passes CX X E) (hg : Gl X x := by rfl) (hdb : (x == ("__debug__" : Str)) = false := by decide) :
    PE X (.Call (.Name x p) [] [] pos) (tMakeR C sp E tNil) := by
  obtain ⟨f, F, M⟩ := G
  refine ⟨fun pins s σ H Q I h => ?_⟩
  refine wpAny_Call_Name_kw (ld_glob I hg hm ?_ hdb)
  exact PySem.W.callWith_K0 I.kIn M.kp (run_makeR (us := []) M F hr hx I .nil h)
/-- C(*y), C by any name -/
def tMakeS (K : PySem.W.Frag) (C : Addr) (sp : Sp) (E : XK) (tf te : TE) : TE := fun σ H Q => tf σ H fun c H0 => c = V.ref C ∧ te σ H0 fun y H1 => ∃ a xs, y = V.ref a ∧ (SqT K H1 a xs ∨ SqL K H1 a xs) ∧
  ∀ x dx, H1 x = Option.none → H1 dx = Option.none → dx ≠ x → sp (V.ref x :: xs) (upd (upd H1 dx (.own x)) x (.ins C dx [])) (fun v H2 => v = .non ∧ Q (.ref x) H2) E
theorem pe_ks {tf : TE} {sp_ : Pos} (hf : PE X (.Name x p) tf) (G : KOk X.prog X.w X.K X.mg X.base CX k C sp) (hr : Room (k + 1) X.A) (hx : Passes CX X E) (he : PE X e te)
    (hst : starEach [.Starred e sp_] X.env = [(true, eval e X.env)] := by rfl) : PE X (.Call (.Name x p) [.Starred e sp_] [] pos) (tMakeS X.K C sp E tf te) := by
  obtain ⟨f, F, M⟩ := G
  refine ⟨fun pins s σ H Q I h => ?_⟩
  refine wpAny_Call_Name_kw (thn (hf.run pins s σ H _ I h) fun u0 s0 ⟨c, H0, I0, rc, ec, q0⟩ => ?_)
  subst ec
  obtain rfl : u0 = Value.ref C := rc
  refine PySem.W.callWith_S (h₀ := X.base) I.ok.mod.kin M.kp (thn (he.run pins s0 σ H0 _ I0 q0) fun v s1 ⟨y, H1, I1, ry, a, xs, ey, hxs, q⟩ => ?_) hst
  subst ey
  obtain rfl : v = Value.ref a := ry
  exact star_any I1 hxs fun us s2 I2 rv => ⟨I2.kIn, run_makeR M F hr hx I2 rv q⟩
end
section
variable {X : Cx} {CX : CXT} {k : Nat} {C f : Addr} {sp : Sp} {E : XK}
def InsA (H : Hp) (a C : Addr) : Prop := ∃ dx fs, H a = some (.ins C dx fs)
theorem InsA.at {pins : List (Addr × Obj)} {σ : St} {H : Hp} {s : Shared} {a : Addr} (I : Inv X pins σ H s) (h : InsA H a C) : ∃ ox od, PySem.W.InstAt s.heap a ox C od := by
  obtain ⟨dx, fs, h⟩ := h
  obtain ⟨mA, O, _⟩ := ins_get I.hok h
  obtain ⟨od, J, _⟩ := O.look
  exact ⟨_, _, J⟩
def rOwn (C : Addr) (sp : Sp) (E : XK) : R2 := fun x y H Q => ∃ a b, x = .ref a ∧ y = .ref b ∧ InsA H a C ∧ InsA H b C ∧ sp [x, y] H Q E
def rOwnI (C : Addr) (sp : Sp) (E : XK) : R2 := fun x y H Q => ∃ a i, x = .ref a ∧ y = .int i ∧ InsA H a C ∧ sp [x, y] H Q E
/-- x[y] by the own __getitem__ -/
structure IOwn (K : PySem.W.Frag) (C f : Addr) : Prop where
  at_ : PySem.W.findIn K (.ref C) "__getitem__" = some (some (.ref f))
  fi : PySem.W.fnIn K f = true
  fn : PySem.W.isFn K (.ref f) = true
def tIxOwn (C : Addr) (sp : Sp) (E : XK) (ta tb : TE) : TE := fun σ H Q => ta σ H fun x H1 => tb σ H1 fun y H2 => ∃ a, x = .ref a ∧ InsA H2 a C ∧ sp [x, y] H2 Q E
end
end L2.Px
set_option Elab.async false
set_option linter.all false
set_option maxRecDepth 100000
set_option maxHeartbeats 1000000
namespace L2.Px
open PySem PySem.Spec PyProof.Rows StX
section
variable {X : Cx} {CX : CXT} {k : Nat} {C f : Addr} {sp : Sp} {E : XK} {a b : Expr} {ta tb : TE} {pos : Pos}
theorem run_in1 {pins : List (Addr × Obj)} {σ : St} {H : Hp} {s : Shared} {Q : VK} {us : List Value} {vs : List V} (F : FnR X.prog X.w X.K X.mg X.base CX k f sp) (hr : Room (k + 1) X.A) (hx : Passes CX X E) (I : Inv X pins σ H s) (r : Vals vs us) (h : sp vs H Q E) :
    wpAny (model X.prog X.w) X.A.in1 (call (.ref f) us) (EP X pins σ Q) X.xe s := by
  refine wpAny_call (codeAny_mono (F X.A.in1 X.stack s H us vs Q E hr.in1 I.env0.in1 r h) fun r s' hq => ?_)
  cases r with
  | error e => exact hx pins σ H s e s' I hq
  | ok fl =>
    cases fl with
    | ret u => exact I.after hq
    | next => exact False.elim hq
    | brk => exact False.elim hq
    | cont => exact False.elim hq
theorem pe_ixOwn (c : IOwn X.K C f) (F : FnR X.prog X.w X.K X.mg X.base CX k f sp) (hr : Room (k + 1) X.A) (hx : Passes CX X E) (ha : PE X a ta) (hb : PE X b tb)
    (hsl : ∀ x i, subscripted b true (.ref x) i = runValue (.builtin "lifetime.subscript" ⟨[.ref x, i], []⟩) := by intros; rfl) : PE X (.Subscript a b pos) (tIxOwn C sp E ta tb) := by
  refine ⟨fun pins s σ H Q I h => ?_⟩
  refine Subscript_ (binT (R := fun x y H2 => ∃ a, x = .ref a ∧ InsA H2 a C ∧ sp [x, y] H2 Q E) ha hb I h fun v u s2 x y H2 I2 rx ry q => ?_)
  obtain ⟨p, rfl, ip, q⟩ := q
  obtain rfl : v = Value.ref p := rx
  obtain ⟨ox, od, J⟩ := ip.at I2
  obtain ⟨m, Fr0⟩ := I2.fr
  exact PySem.W.sub_K Fr0 I.ok.mod.kin J c.at_ c.fi c.fn (run_in1 (us := [.ref p, u]) (vs := [.ref p, y]) F hr hx I2 (.cons rfl (.cons ry .nil)) q) (hsl p u)
end
section
variable {X : Cx}
abbrev MQ := List (Str ⊕ Nat)
/-- the sub-patterns of a sequence: written texts and names -/
inductive PatEach (X : Cx) : List Pattern → MQ → Prop
  | nil : PatEach X [] []
  | val {z : Str} {k : Nat} {c pp : Pos} {ps : List Pattern} {qs : MQ} (h : PatEach X ps qs) : PatEach X (.MatchValue (.Constant (.str z) k c) pp :: ps) (.inl z :: qs)
  | cap {x : Str} {i : Nat} {pp : Pos} {ps : List Pattern} {qs : MQ} (h : X.N[i]? = some x ∧ Loc X.env.scope x ∧ (X.fn x = true ∨ X.env.scope.names.lookup x = some .local)) (h2 : PatEach X ps qs) : PatEach X (.MatchAs none (some x) pp :: ps) (.inr i :: qs)
def mBind : MQ → List V → Option (List (Nat × V))
  | .inl z :: qs, v :: vs => if v = .str z then mBind qs vs else none
  | .inr i :: qs, v :: vs => (mBind qs vs).map ((i, v) :: ·)
  | _, _ => some []
def scalOk : MQ → List V → Prop
  | .inl z :: qs, v :: vs => scal v (.str z) = true ∧ (v = .str z → scalOk qs vs)
  | .inr _ :: qs, _ :: vs => scalOk qs vs
  | _, _ => True
def setAll : St → List (Nat × V) → St
  | σ, [] => σ
  | σ, (i, v) :: bs => setAll (σ.set i (some v)) bs
/-- the names' values, as the matching hands them on -/
def BindsAre (X : Cx) : List (Nat × V) → List (Str × Value) → Prop := Paired fun p q => (X.N[p.1]? = some q.1 ∧ Loc X.env.scope q.1 ∧ (X.fn q.1 = true ∨ X.env.scope.names.lookup q.1 = some .local)) ∧ RelV p.2 q.2
theorem matchEach_run {pins : List (Addr × Obj)} {σ : St} {H : Hp} : ∀ {ps : List Pattern} {qs : MQ} {vs : List V} {us : List Value} {s : Shared}, PatEach X ps qs → Vals vs us → qs.length = vs.length → scalOk qs vs → Inv X pins σ H s →
    wpAny (model X.prog X.w) X.A (matchEach ps X.env us) (fun r s' => Inv X pins σ H s' ∧ match mBind qs vs with | none => r = none | some bs => ∃ bs', r = some bs' ∧ BindsAre X bs bs') X.xe s := by
  intro ps
  induction ps with
  | nil =>
    intro qs vs us s hp r hl hs I
    cases hp
    cases vs with
    | nil =>
      cases r
      exact wpAny_matchEach_nil ⟨I, [], rfl, .nil⟩
    | cons v vs => cases hl
  | cons p ps ih =>
    intro qs vs us s hp r hl hs I
    cases qs with
    | nil => cases hp
    | cons q qs =>
      cases vs with
      | nil => cases hl
      | cons v vs =>
        cases r with
        | cons rv rr =>
          rename_i u us
          have hl' : qs.length = vs.length := Nat.succ.inj hl
          cases q with
          | inl z' =>
            cases hp with
            | val hp2 =>
            rename_i k c pp
            obtain ⟨sc, hs2⟩ := hs
            refine wpAny_matchEach_cons (wpAny_matchPattern_Value (Calls.Constant_str ?_)) rfl
            have I1 := I.tok (s.toks + 1)
            refine thn (op_eq pins { s with toks := s.toks + 1 } σ H v (.str z') u (.str z' s.toks) (fun x H' => H' = H ∧ x = .bl (decide (v = .str z'))) I1 rv ⟨_, rfl⟩ ⟨sc, rfl, rfl⟩) fun w s2 hw => ?_
            obtain ⟨x, H', I2, rx, eH, ex⟩ := hw
            subst eH ex
            obtain rfl : w = Value.bool (decide (v = .str z')) := rx
            refine wpAny_truthy_bool ?_
            by_cases hv : v = .str z'
            · rw [if_pos (decide_eq_true hv)]
              refine thn (ih hp2 rr hl' (hs2 hv) I2) fun r' s3 ⟨I3, h3⟩ => ?_
              unfold mBind
              rw [if_pos hv]
              revert h3
              cases mBind qs vs with
              | none => intro h3; subst h3; exact ⟨I3, rfl⟩
              | some bs =>
                rintro ⟨bs', e, hb⟩
                subst e
                exact ⟨I3, bs', rfl, hb⟩
            · rw [if_neg (by simp [hv])]
              unfold mBind
              rw [if_neg hv]
              exact ⟨I2, rfl⟩
          | inr i =>
            cases hp with
            | cap hx hp2 =>
            refine wpAny_matchEach_cons (wpAny_matchPattern_Capture ?_) rfl
            refine thn (ih hp2 rr hl' hs I) fun r' s3 ⟨I3, h3⟩ => ?_
            unfold mBind
            revert h3
            cases mBind qs vs with
            | none => intro h3; subst h3; exact ⟨I3, rfl⟩
            | some bs =>
              rintro ⟨bs', e, hb⟩
              subst e
              exact ⟨I3, _, rfl, .cons ⟨hx, rv⟩ hb⟩
theorem binds_run {pins : List (Addr × Obj)} {H : Hp} (hN : X.N.Nodup) : ∀ {bs : List (Nat × V)} {bs' : List (Str × Value)} {σ : St} {s : Shared} {Q : Unit → Shared → Prop} {E : Value → Shared → Prop}, BindsAre X bs bs' → Inv X pins σ H s →
    (∀ s', Inv X pins (setAll σ bs) H s' → Q () s') → wpAny (model X.prog X.w) X.A (assignInOrder (bs'.map fun (n, _) => bindName X.env n) (bs'.map (·.2))) Q E s
  | [], _, σ, s, Q, E, .nil, I, h => assignInOrder_nil (h s I)
  | (i, v) :: bs, (x, u) :: bs', σ, s, Q, E, .cons hx hb, I, h => by
    obtain ⟨⟨h1, h2, h3⟩, rv⟩ := hx
    refine assignInOrder_cons (wpAny_bindName (store_ok I hN h1 h2 rv (fun s1 I1 => ?_) h3))
    exact binds_run hN hb I1 h
abbrev TC := V → TS
/-- the cases of a match, from one on -/
structure PCs (X : Cx) (cs : List MatchCase) (t : TC) : Prop where
  run : ∀ (first : Bool) (pins : List (Addr × Obj)) (s : Shared) (σ : St) (H : Hp) (D : Ends) (x : V) (v : Value), Inv X pins σ H s → RelV x v → t x D σ H → wpAny (model X.prog X.w) X.A (matchCases cs X.env v first) (SP X pins D) X.xe s
/-- case _: -/
theorem pcs_wild {body : List Stmt} {tb : TS} {p : Pos} (hb : PSs X body tb) : PCs X [⟨.MatchAs none none p, none, body⟩] (fun _ => tb) := by
  refine ⟨fun first pins s σ H D x v I r h => ?_⟩
  exact wpAny_matchCases_cons (wpAny_matchPattern_Capture (assignInOrder_nil (hb.run pins s σ H D I h)))
def NoSeq : V → Prop
  | .non | .bl _ | .int _ | .str _ => True
  | _ => False
def tCaseS (K : PySem.W.Frag) (qs : MQ) (g : TT) (tb : TS) (rest : TC) : TC := fun x D σ H =>
  (NoSeq x ∧ rest x D σ H) ∨ ∃ a xs, x = .ref a ∧ (SqT K H a xs ∨ SqL K H a xs) ∧ ((xs.length ≠ qs.length ∧ rest x D σ H) ∨ (xs.length = qs.length ∧ scalOk qs xs ∧
    match mBind qs xs with
    | none => rest x D σ H
    | some bs => g (setAll σ bs) H fun ok H1 => if ok = true then tb D (setAll σ bs) H1 else rest x D (setAll σ bs) H1))
theorem noseq_flag {x : V} {v : Value} (n : NoSeq x) (r : RelV x v) {Q : Bool → Shared → Prop} {M : Model} {A : Around} {E : Value → Shared → Prop} {s : Shared} (h : Q false s) : wpAny M A (collectionFlag true v) Q E s := by
  cases x with
  | non => cases r; exact wpAny_collectionFlag (T := "NoneType") rfl flag_seq_None h
  | bl _ => cases r; exact wpAny_collectionFlag (T := "bool") rfl flag_seq_bool h
  | int _ => obtain ⟨t, rfl⟩ := r; exact wpAny_collectionFlag (T := "int") rfl flag_seq_int h
  | str _ => obtain ⟨t, rfl⟩ := r; exact wpAny_collectionFlag (T := "str") rfl flag_seq_str h
  | byt _ => exact n.elim
  | flt _ => exact n.elim
  | ref _ => exact n.elim
  | ty _ => exact n.elim
/-- case [p1, p2, ..] if g: -/
theorem pcs_seq {ps : List Pattern} {qs : MQ} {g : Expr} {body : List Stmt} {rest : List MatchCase} {tg : TT} {tb : TS} {tr : TC} {p : Pos} (hc : X.calm = true) (hN : X.N.Nodup) (hp : PatEach X ps qs) (hl : ps.length = qs.length) (hg : PT X g tg) (hb : PSs X body tb) (hr : PCs X rest tr)
    (hstar : ps.findIdx? (·.isStar) = none := by rfl) (hwild : (ps.all fun p => p.isWildcard || (p.isStar && p.names.isEmpty)) = false := by rfl) : PCs X (⟨.MatchSequence ps p, some g, body⟩ :: rest) (tCaseS X.K qs tg tb tr) := by
  refine ⟨fun first pins s σ H D x v I r h => wpAny_matchCases_cons ?_⟩
  rcases h with ⟨n, h⟩ | ⟨a, xs, rfl, hq, h⟩
  · refine wpAny_matchPattern_Sequence (noseq_flag n r ?_) hstar hwild
    rw [if_neg Bool.false_ne_true]
    exact hr.run false pins s σ H D x v I r h
  · obtain rfl : v = Value.ref a := r
    have tail : ∀ {us : List Value} {s1 : Shared}, Inv X pins σ H s1 → Vals xs us → xs.length = qs.length → scalOk qs xs → (match mBind qs xs with
        | none => tr (.ref a) D σ H
        | some bs => tg (setAll σ bs) H fun ok H1 => if ok = true then tb D (setAll σ bs) H1 else tr (.ref a) D (setAll σ bs) H1) →
        wpAny (model X.prog X.w) X.A (matchEach ps X.env us) (fun r s₁ => match r with
          | none => wpAny (model X.prog X.w) X.A (matchCases rest X.env (.ref a) false) (SP X pins D) X.xe s₁
          | some bs => wpAny (model X.prog X.w) X.A (assignInOrder (bs.map fun (n, _) => bindName X.env n) (bs.map (·.2))) (fun _ s₂ =>
              wpAny (model X.prog X.w) X.A (isTrue g X.env (eval g X.env)) (fun ok s₃ => if ok then wpAny (model X.prog X.w) X.A (execs body X.env) (SP X pins D) X.xe s₃ else wpAny (model X.prog X.w) X.A (matchCases rest X.env (.ref a) false) (SP X pins D) X.xe s₃) X.xe s₂) X.xe s₁) X.xe s1 := by
      intro us s1 I1 rv hl2 hs hm
      refine thn (matchEach_run hp rv hl2.symm hs I1) fun r' s3 ⟨I3, h3⟩ => ?_
      revert h3 hm
      cases mBind qs xs with
      | none => intro hm h3; subst h3; exact hr.run false pins s3 σ H D (.ref a) _ I3 rfl hm
      | some bs =>
        rintro hm ⟨bs', e, hb'⟩
        subst e
        refine binds_run hN hb' I3 fun s4 I4 => ?_
        refine thn (hg.run pins s4 _ H _ I4 hm) fun ok s5 ⟨H5, I5, h5⟩ => ?_
        cases ok with
        | true => exact hb.run pins s5 _ H5 D I5 h5
        | false => exact hr.run false pins s5 _ H5 D (.ref a) _ I5 rfl h5
    rcases hq with hq | hq
    · obtain ⟨its, rv, ht, hz⟩ := I.tuple hq
      have hfit : (its.toArray.size : Int) < 2 ^ 63 := by
        have e := rv.length
        have z := line63
        rw [List.size_toArray]
        omega
      have I1 := I.tok (s.toks + 1 + 1)
      rcases h with ⟨hn, h⟩ | ⟨hn, hs, h⟩
      · exact matchSeq_tuple_miss ht hfit (by rw [List.size_toArray, ← rv.length, hl]; exact hn) (hr.run false pins _ σ H D (.ref a) _ I1 rfl h) hstar hwild
      · refine matchSeq_tuple_hit ht hfit (by rw [List.size_toArray, ← rv.length, hl]; exact hn) ?_ hstar hwild
        have e : ps.length = its.toArray.size := by rw [List.size_toArray, ← rv.length, hl]; exact hn.symm
        rw [e]
        refine unpackItems_tuple (I.ok.hd hc) ht fun h' hx => ?_
        exact tail (I1.kept (t' := s.toks + 1 + 1) fun b o q => hx b o (Nat.ne_of_lt (Heap.lt_size q)) q) (by simpa using rv) hn hs h
    · obtain ⟨its, rv, pl, hz⟩ := I.list hq
      have hfit : (its.toArray.size : Int) < 2 ^ 63 := by
        have e := rv.length
        have z := line63
        rw [List.size_toArray]
        omega
      have I1 := I.tok (s.toks + 1 + 1)
      rcases h with ⟨hn, h⟩ | ⟨hn, hs, h⟩
      · exact matchSeq_list_miss pl.isList hfit (by rw [List.size_toArray, ← rv.length, hl]; exact hn) (hr.run false pins _ σ H D (.ref a) _ I1 rfl h) hstar hwild
      · refine matchSeq_list_hit pl.isList hfit (by rw [List.size_toArray, ← rv.length, hl]; exact hn) ?_ hstar hwild
        have e : ps.length = its.toArray.size := by rw [List.size_toArray, ← rv.length, hl]; exact hn.symm
        rw [e]
        refine PySem.W.kun_itemsOf (I.ok.hd hc) pl.isList fun h' hx => ?_
        exact tail (I1.kept (t' := s.toks + 1 + 1) fun b o q => hx b o (Nat.ne_of_lt (Heap.lt_size q)) q) (by simpa using rv) hn hs h
def tMatch (te : TE) (tc : TC) : TS := fun D σ H => te σ H fun x H1 => tc x D σ H1
theorem ps_match {e : Expr} {cs : List MatchCase} {te : TE} {tc : TC} {pos : Pos} (he : PE X e te) (hc : PCs X cs tc) : PS X (.Match e cs pos) (tMatch te tc) := by
  refine ⟨fun pins s σ H D I h => wpAny_Match (thn (he.run pins s σ H _ I h) fun v s1 ⟨x, H1, I1, r, q⟩ => ?_)⟩
  exact hc.run true pins s1 σ H1 D x v I1 r q
end
end L2.Px
set_option Elab.async false
set_option linter.all false
set_option maxRecDepth 100000
set_option maxHeartbeats 1000000
namespace PySem
open Sem (wp)
open AutoSeq1 (wpAny_loadPart')
theorem pxMeets_enumerate_newT (l : Addr) (items : Array Value) (n : Nat) (dct : Option Addr) (sl : Array (Option Value)) :
    Meets (Builtin.«enumerate.__new__» ⟨[.type "enumerate", .ref l], []⟩) (fun _ R s => s.heap.get? l = some { cls := .type "tuple", dict := dct, data := .seq items n, slots := sl } ∧
      R (.ok (.ret (.ref (s.heap.push { cls := .type "tuple_iterator", data := .fields #[.ref l, .int 0 0] }).objs.size)))
        { s with heap := (s.heap.push { cls := .type "tuple_iterator", data := .fields #[.ref l, .int 0 0] }).push { cls := .type "enumerate", data := .fields #[.none, .bool false, .ref s.heap.objs.size, rawInt 0, .none, .none] } }) :=
  .of_wp fun prog w A R s h => by
    obtain ⟨hp, g, d, tk, os⟩ := s; obtain ⟨hl, h⟩ := h
    have hsub := sub_enumerate
    have hL : Heap.IsTuple (Shared.heap ⟨hp, g, d, tk, os⟩) l items := ⟨_, hl, rfl, n, rfl⟩
    wp_walk using wpAny_loadPart' hl
    refine wpAny_stack_any fun st => wpAny_pure ?_
    split
    · rename_i c _ _ _ _ _
      cases (c == Value.type "enumerate")
      · wp_walk using wpAny_loadPart' hl, wpAny_pyIter_tuple hL
        exact ⟨_, rfl, h⟩
      · wp_walk using wpAny_loadPart' hl, wpAny_pyIter_tuple hL
        exact ⟨_, rfl, h⟩
    · wp_walk using wpAny_loadPart' hl, wpAny_pyIter_tuple hL
      exact ⟨_, rfl, h⟩
section
variable {prog : Program} {w : World} {A : Around} {E : Value → Shared → Prop} {s : Shared}
theorem pxCall_enumerate_tuple {l : Addr} {items : Array Value} {Q : Value → Shared → Prop} (hL : s.heap.IsTuple l items)
    (h : ∀ h', IsEnum h' (s.heap.objs.size + 1) s.heap.objs.size 0 .none → h'.IsTupleIter s.heap.objs.size l 0 → h'.objs.size = s.heap.objs.size + 2 →
      (∀ b o, s.heap.get? b = some o → h'.get? b = some o) → Q (.ref (s.heap.objs.size + 1)) { s with heap := h' }) :
    wpAny (model prog w) A (call (.type "enumerate") [.ref l]) Q E s := by
  obtain ⟨⟨c, dct, dt, sl⟩, hl, hc, n, hd⟩ := hL
  replace hc : c = .type "tuple" := hc
  replace hd : dt = .seq items n := hd
  subst hc hd
  refine callType_new F.called_enumerate (by decide) (F.typeCall_enumerate_1 _) (F.newCall_enumerate_1 _) (fun obj => F.args_object_init_2 obj _) F.entry_enumerate_new
    (pxMeets_enumerate_newT l items n dct sl) ⟨hl, ?_⟩
  have hz : (s.heap.push { cls := .type "tuple_iterator", data := .fields #[.ref l, .int 0 0] }).objs.size = s.heap.objs.size + 1 := Heap.size_push ..
  show _ ∧ _
  rw [hz]
  have he : IsEnum ((s.heap.push { cls := .type "tuple_iterator", data := .fields #[.ref l, .int 0 0] }).push
      { cls := .type "enumerate", data := .fields #[.none, .bool false, .ref s.heap.objs.size, rawInt 0, .none, .none] }) (s.heap.objs.size + 1) s.heap.objs.size 0 .none := by
    have := Heap.get?_push_size (s.heap.push { cls := .type "tuple_iterator", data := .fields #[.ref l, .int 0 0] })
      (o := { cls := .type "enumerate", data := .fields #[.none, .bool false, .ref s.heap.objs.size, rawInt 0, .none, .none] }) rfl
    rw [hz] at this; exact this
  refine ⟨⟨_, he, rfl⟩, h _ he ⟨_, Heap.get?_push_of_some _ (Heap.get?_push_size _ rfl), rfl, rfl⟩ (by rw [Heap.size_push, hz]) fun b o x => Heap.get?_push_of_some _ (Heap.get?_push_of_some _ x)⟩
end
end PySem
namespace L2.Px
open PySem PySem.Spec PyProof.Rows StX
/-- the tuple at a, each item in a new pair -/
def IteT (K : PySem.W.Frag) (a : Addr) : It :=
  ⟨fun i H => ∃ (xs : List V) (x : V), SqT K H a xs ∧ xs[i]? = some x, fun i H v H' => ∃ T x, v = .ref T ∧ H T = none ∧ H' = upd H T (.tup [.int (i : Nat), x]) ∧ ∀ xs, SqT K H a xs → xs[i]? = some x, fun i H => ∃ xs : List V, SqT K H a xs ∧ xs.length ≤ i⟩
theorem turn_enumT {P : Program} {w : World} {K : PySem.W.Frag} {elts : List Expr} {kk : Nat} {tpos : Pos} (a e it : Addr) :
    Turn P w K (.Tuple elts kk tpos) (IteT K a) [e, it] e (fun i h => (∃ old, IsEnum h e it ((i : Nat) : Int) old) ∧ h.IsTupleIter it a i ∧ e ≠ it) where
  mem := by simp
  obj := fun i h st b hb => by
    obtain ⟨⟨old, he⟩, ⟨o, ho, hc, hd⟩, _⟩ := st
    have e' : b = e ∨ b = it := by simpa using hb
    rcases e' with z | z
    · rw [z]; exact ⟨_, he, fun v q => nomatch q⟩
    · rw [z]; exact ⟨o, ho, fun v q => by rw [hd] at q; cases q⟩
  keep := fun i h h' st k => let ⟨⟨old, he⟩, hi, hne⟩ := st; ⟨⟨old, k e (by simp) _ he⟩, hi.at fun o q => k it (by simp) o q, hne⟩
  item := by
    intro X hP hw hK hc i pins s σ H E I hf st hg
    subst hP hw hK
    obtain ⟨⟨old, he⟩, hit, hne⟩ := st
    obtain ⟨xs, x, hq, hx⟩ := hg
    obtain ⟨its, rv, p, hz⟩ := I.tuple hq
    obtain ⟨u, hu, ru⟩ := rv.get hx
    have hel : e < s.heap.objs.size := Heap.lt_size he
    have hil : it < s.heap.objs.size := by obtain ⟨_, q, _⟩ := hit; exact Heap.lt_size q
    have hh : X.A.handled = none := I.ok.hd hc
    have hait : a ≠ it := by
      rintro rfl
      obtain ⟨o1, q1, c1, _⟩ := p
      obtain ⟨o2, q2, c2, _⟩ := hit
      rw [q1] at q2; cases q2; rw [c1] at c2; exact absurd (Value.type.inj c2) (by decide)
    have hae : e ≠ a := by
      rintro rfl
      obtain ⟨o1, q1, c1, _⟩ := p
      have he' : s.heap.get? e = some _ := he
      rw [q1] at he'; cases he'; exact absurd (Value.type.inj c1) (by decide)
    have hi : i < its.toArray.size := by
      rw [List.size_toArray]
      exact (List.getElem?_eq_some_iff.mp hu).1
    refine wpAny_pyNext_enum_itemD (Draws.tuple (A := X.A.in1) hh it a hait its.toArray) he ⟨hit, p⟩ hi hne (by simp [hne, hae]) fun u' h' tk hu' ho hit' hT hsz hk => ?_
    have eu : u' = u := by
      have q : its[i]? = some u' := by simpa using hu'
      rw [hu] at q; exact (Option.some.inj q).symm
    subst eu
    refine ⟨_, rfl, wpAny_letOwnedTupleGo_enum (s := { s with heap := h', toks := tk + 1 }) ho fun h'' he' sb => ?_⟩
    have hT2 : h''.get? s.heap.objs.size = some { cls := .type "tuple", data := .seq #[.int i tk, u'] } := (sb.2 _ (Nat.ne_of_gt hel)).trans hT
    have new : ObjOk X.prog X.w (upd H s.heap.objs.size (.tup [.int (i : Nat), x])) h'' s.heap.objs.size (.tup [.int (i : Nat), x]) :=
      ⟨by show 2 ≤ sizeLine; decide, [.int i tk, u'], .cons ⟨_, rfl⟩ (.cons ru .nil), ⟨_, hT2, rfl, _, rfl⟩⟩
    have I1 : Inv X pins σ (upd H s.heap.objs.size (.tup [.int (i : Nat), x])) { s with heap := h'', toks := tk + 1 } :=
      I.turnedNew (ch := [e, it]) (fun b ob hb q => (sb.2 b (fun z => hb (by simp [z]))).trans (hk b ob (fun z => hb (by simp [z])) (fun z => hb (by simp [z])) q)) hf (Nat.le_refl _) new
    refine ⟨.ref s.heap.objs.size, _, I1, rfl, ⟨_, x, rfl, I.hok.fresh (Nat.le_refl _), rfl, fun ys hy => by rw [I.tuple_inj hy hq]; exact hx⟩, ⟨⟨u', ?_⟩, hit'.1.at fun o q => (sb.2 it (Ne.symm hne)).trans q, hne⟩, fun b hb => ?_⟩
    · have e1 : ((i + 1 : Nat) : Int) = (i : Int) + 1 := by omega
      rw [e1]; exact he'
    · have hb' : b < s.heap.objs.size := by
        have e' : b = e ∨ b = it := by simpa using hb
        rcases e' with z | z
        · rw [z]; exact hel
        · rw [z]; exact hil
      rw [upd_ne (Nat.ne_of_lt hb')]
      exact (hf b hb).1
  done := by
    intro X hP hw hK hc i pins s σ H E I hf st hg
    subst hP hw hK
    obtain ⟨⟨old, he⟩, hit, hne⟩ := st
    obtain ⟨xs, hq, hx⟩ := hg
    obtain ⟨its, rv, p, hz⟩ := I.tuple hq
    obtain ⟨f0, f1, f2, f3, f4, f5⟩ := hf it (by simp)
    have hh : X.A.handled = none := I.ok.hd hc
    have hn : its.toArray[i]? = none := by
      have hl := rv.length
      simp; omega
    have hT : s.TypeIs (.ref e) "enumerate" := ⟨_, he, rfl⟩
    unfold pyNext
    refine wpAny_bind (wpAny_attempt (wpAny_callSpecial?_slot (name := Str.ofString "__next__") hT F.slot_enumerate_next
      (wpAny_call_entry F.slot_enumerate_next hT F.entry_enumerate_next ?_ (F.args_enumerate_next_1 _))))
    show wpAny _ _ (field (.ref e) 2 >>= _) _ _ _
    refine wpAny_bind (wpAny_field he rfl (x := .ref it) rfl ?_)
    refine wpAny_bind (wpAny_nextOf_tuple_end hh hit p hn fun h' x he' hx' => ?_)
    obtain ⟨o, ho, hc'⟩ := hx'
    refine wpAny_bind (wpAny_isInstance (T := "StopIteration") (b := true) ⟨o, ho, hc'⟩ isSubtype_stop ?_)
    exact wpAny_pure ⟨rfl, I.turned (t' := s.toks) (fun b o hb q => he' b o hb q) f0 f1 f3 f4 f5⟩
  self := fun A i s Q E st h => let ⟨⟨_, he⟩, _⟩ := st; wpAny_pyIter_enum he h
def iEnumT (K : PySem.W.Frag) (ta : TA) : TI := fun σ H R => ta σ H fun vs H1 => ∃ a xs, vs = [.ref a] ∧ SqT K H1 a xs ∧ R (IteT K a) H1
theorem pi_enumT {X : Cx} {e : Expr} {ta : TA} {p pos tpos : Pos} {elts : List Expr} {kk : Nat} (hm : X.mg "enumerate" = none) (ha : PA X [e] ta) (hg : Gl X "enumerate" := by rfl) (hs : starEach [e] X.env = [(false, eval e X.env)] := by rfl) :
    PI X (.Tuple elts kk tpos) (.Call (.Name "enumerate" p) [e] [] pos) (iEnumT X.K ta) := by
  refine ⟨fun pins s σ H R I h => ?_⟩
  refine Call_ (ld_blt I hg hm boot_enumerate (PyProof.Rows.callWith_type1 (thn (ha.run pos pins s σ H _ I h) fun us s1 ⟨vs, H1, I1, r1, q1⟩ => ?_) hs rfl))
  obtain ⟨a, xs, ex, hq, q⟩ := q1
  subst ex
  cases r1 with
  | cons r rr =>
    cases rr
    cases r
    obtain ⟨its, rv, p', hz⟩ := I1.tuple hq
    refine pxCall_enumerate_tuple (show s1.heap.IsTuple a its.toArray from p') fun h' he hit hsz hk => wpAny_pyIter_enum he ?_
    have I2 : Inv X pins σ H1 { s1 with heap := h' } := I1.kept (t' := s1.toks) hk
    refine ⟨s1.heap.objs.size + 1, [s1.heap.objs.size + 1, s1.heap.objs.size], _, _, H1, rfl, I2, turn_enumT a (s1.heap.objs.size + 1) s1.heap.objs.size, ⟨⟨.none, he⟩, hit, Nat.succ_ne_self _⟩, fun b hb => ?_, q⟩
    have e' : b = s1.heap.objs.size + 1 ∨ b = s1.heap.objs.size := by simpa using hb
    have hle : s1.heap.objs.size ≤ b := by
      rcases e' with z | z
      · rw [z]; exact Nat.le_add_right _ _
      · rw [z]; exact Nat.le_refl _
    exact I1.fpOk hle (I1.hok.fresh hle)
/-- the loop over such a walk: the pair is new at T -/
theorem for_enumT {K : PySem.W.Frag} {a : Addr} {xs : List V} {g : TG} {tb : TS} {D : Ends} {σ : St} {H : Hp} (Pv : Nat → St → Hp → Prop) (h0 : Pv 0 σ H) (hl : ∀ i σ H, i ≤ xs.length → Pv i σ H → SqT K H a xs)
    (hs : ∀ i x T σ H, xs[i]? = some x → Pv i σ H → H T = none → g (.ref T) σ (upd H T (.tup [.int (i : Nat), x])) fun σ2 H2 => tb { D with nx := Pv (i + 1), ct := Pv (i + 1), bk := D.nx } σ2 H2) (hd : ∀ σ H, Pv xs.length σ H → D.nx σ H) :
    ∃ W : Nat → Nat → St → Hp → Prop, (∃ m, W 0 m σ H) ∧ ∀ i m σ H, W i m σ H →
      ((IteT K a).stop i H ∧ D.nx σ H) ∨ ((IteT K a).go i H ∧ ∃ N : St → Hp → Prop, (∀ σ' H', N σ' H' → ∃ m', m' < m ∧ W (i + 1) m' σ' H') ∧ ∀ x H', (IteT K a).yld i H x H' → g x σ H' fun σ2 H2 => tb { D with nx := N, ct := N, bk := D.nx } σ2 H2) := by
  refine ⟨fun i m σ H => m = xs.length - i ∧ i ≤ xs.length ∧ Pv i σ H, ⟨xs.length, by simp, Nat.zero_le _, h0⟩, ?_⟩
  rintro i m σ H ⟨rfl, hi, p⟩
  have q := hl i σ H hi p
  by_cases hlt : i < xs.length
  · refine .inr ⟨⟨xs, xs[i], q, by simp [hlt]⟩, Pv (i + 1), fun σ' H' p' => ⟨xs.length - (i + 1), by omega, rfl, hlt, p'⟩, fun x H' y => ?_⟩
    obtain ⟨T, z, rfl, hT, rfl, y⟩ := y
    exact hs i z T σ H (y xs q) p hT
  · have e : i = xs.length := by omega
    subst e
    exact .inl ⟨⟨xs, q, Nat.le_refl _⟩, hd σ H p⟩
end L2.Px
set_option Elab.async false
set_option linter.all false
set_option maxRecDepth 100000
set_option maxHeartbeats 1000000
namespace L2.Px
open PySem PySem.Spec PyProof.Rows StX
section
variable {X : Cx}
def rAddS : R2 := fun x y H Q => ∃ i j, x = .str i ∧ y = .str j ∧ i.length + j.length ≤ sizeLine ∧ Q (.str (i ++ j)) H
def rAddA (K : PySem.W.Frag) : R2 := fun x y H Q => rI0 (fun i j => .int (i + j)) x y H Q ∨ rAddS x y H Q ∨ rCat x y H Q
theorem oAdd : OpR X (binaryOp .Add) (rAddA X.K) := op_add.or (op_add_str.or op_cat)
def rMulA : R2 := fun x y H Q => rI CMul (fun i j => .int (i * j)) x y H Q ∨ rRep x y H Q
theorem oMul : OpR X (binaryOp .Mult) rMulA := op_mul.or op_rep
def rEqA (K : PySem.W.Frag) : R2 := fun x y H Q => rEq x y H Q ∨ rEqD K x y H Q
def rNeA (K : PySem.W.Frag) : R2 := fun x y H Q => rNe x y H Q ∨ rNeD K x y H Q
theorem oEq (hu : X.A.units + 64 < cLine) : OpR X (compareOp .Eq) (rEqA X.K) := op_eq.or (op_eqD hu)
theorem oNe (hu : X.A.units + 64 < cLine) : OpR X (compareOp .NotEq) (rNeA X.K) := op_ne.or (op_neD hu)
end
section
variable {K : PySem.W.Frag} {σ : St} {H : Hp} {Q : VK} {i j : Int} {x y : Str} {a b : Addr} {xs ys : List V} {p q : Prop} {A B : Prop} {c : Bool} {v : V}
theorem rd_add_int (h : Q (.int (i + j)) H) : rAddA K (.int i) (.int j) H Q := .inl ⟨i, j, rfl, rfl, h⟩
theorem rd_add_str (hz : x.length + y.length ≤ sizeLine) (h : Q (.str (x ++ y)) H) : rAddA K (.str x) (.str y) H Q := .inr (.inl ⟨x, y, rfl, rfl, hz, h⟩)
theorem rd_mul_int (hc : CMul i j) (h : Q (.int (i * j)) H) : rMulA (.int i) (.int j) H Q := .inl ⟨i, j, rfl, rfl, hc, h⟩
theorem rd_eq_scal {v w : V} (hs : scal v w = true) (h : Q (.bl (decide (v = w))) H) : rEqA K v w H Q := .inl ⟨hs, h⟩
theorem rd_ne_scal {v w : V} (hs : scal v w = true) (h : Q (.bl (!decide (v = w))) H) : rNeA K v w H Q := .inl ⟨hs, h⟩
theorem dec_int (i j : Int) : decide (V.int i = V.int j) = decide (i = j) := by rw [L2.dec_int, Bool.beq_eq_decide_eq]
theorem dec_str (x y : Str) : decide (V.str x = V.str y) = decide (x = y) := by rw [L2.dec_str, Bool.beq_eq_decide_eq]
theorem dec_bl (x y : Bool) : decide (V.bl x = V.bl y) = decide (x = y) := by rw [L2.dec_bl, Bool.beq_eq_decide_eq]
theorem rd_eq_int (h : Q (.bl (decide (i = j))) H) : rEqA K (.int i) (.int j) H Q := rd_eq_scal rfl (by rw [dec_int]; exact h)
theorem rd_eq_str (h : Q (.bl (decide (x = y))) H) : rEqA K (.str x) (.str y) H Q := rd_eq_scal rfl (by rw [dec_str]; exact h)
theorem rd_eq_bl {c d : Bool} (h : Q (.bl (decide (c = d))) H) : rEqA K (.bl c) (.bl d) H Q := rd_eq_scal rfl (by rw [dec_bl]; exact h)
theorem rd_ne_int (h : Q (.bl (!decide (i = j))) H) : rNeA K (.int i) (.int j) H Q := rd_ne_scal rfl (by rw [dec_int]; exact h)
theorem rd_ne_str (h : Q (.bl (!decide (x = y))) H) : rNeA K (.str x) (.str y) H Q := rd_ne_scal rfl (by rw [dec_str]; exact h)
theorem rd_ne_bl {c d : Bool} (h : Q (.bl (!decide (c = d))) H) : rNeA K (.bl c) (.bl d) H Q := rd_ne_scal rfl (by rw [dec_bl]; exact h)
theorem rd_eq_dat {d e : PyData} {v w : V} (hd : Dp K H v d) (he : Dp K H w e) (sd : SeqAt.shaped d = true) (se : SeqAt.shaped e = true) (h : Q (.bl (PyData.eqv d e)) H) : rEqA K v w H Q := .inr ⟨d, e, hd, he, sd, se, h⟩
theorem rd_ne_dat {d e : PyData} {v w : V} (hd : Dp K H v d) (he : Dp K H w e) (sd : SeqAt.shaped d = true) (se : SeqAt.shaped e = true) (h : Q (.bl (!PyData.eqv d e)) H) : rNeA K v w H Q := .inr ⟨d, e, hd, he, sd, se, h⟩
theorem rd_sub (h : Q (.int (i - j)) H) : rI0 (fun i j => .int (i - j)) (.int i) (.int j) H Q := ⟨i, j, rfl, rfl, h⟩
theorem rd_I0 {g : Int → Int → V} (h : Q (g i j) H) : rI0 g (.int i) (.int j) H Q := ⟨i, j, rfl, rfl, h⟩
theorem rd_I {C : Int → Int → Prop} {g : Int → Int → V} (hc : C i j) (h : Q (g i j) H) : rI C g (.int i) (.int j) H Q := ⟨i, j, rfl, rfl, hc, h⟩
theorem rd_bl {R : Bool → Prop} (h : R c) : ∃ k, V.bl c = .bl k ∧ R k := ⟨c, rfl, h⟩
theorem rd_dT [Decidable p] (h : p) (a : A) : if decide p = true then A else B := by rw [if_pos (decide_eq_true h)]; exact a
theorem rd_dF [Decidable p] (h : ¬ p) (b : B) : if decide p = true then A else B := by rw [if_neg (by simp [h])]; exact b
theorem rd_nT [Decidable p] (h : ¬ p) (a : A) : if (!decide p) = true then A else B := by rw [if_pos (by simp [h])]; exact a
theorem rd_nF [Decidable p] (h : p) (b : B) : if (!decide p) = true then A else B := by rw [if_neg (by simp [h])]; exact b
theorem rd_cT (h : c = true) (a : A) : if c = true then A else B := by rw [if_pos h]; exact a
theorem rd_cF (h : c = false) (b : B) : if c = true then A else B := by rw [h, if_neg Bool.false_ne_true]; exact b
theorem rd_ite [Decidable p] (a : p → A) (b : ¬ p → B) : if decide p = true then A else B := by
  by_cases h : p
  · exact rd_dT h (a h)
  · exact rd_dF h (b h)
theorem rd_iteN [Decidable p] (a : ¬ p → A) (b : p → B) : if (!decide p) = true then A else B := by
  by_cases h : p
  · exact rd_nF h (b h)
  · exact rd_nT h (a h)
theorem rd_iteC (a : c = true → A) (b : c = false → B) : if c = true then A else B := by
  cases c with
  | true => exact rd_cT rfl (a rfl)
  | false => exact rd_cF rfl (b rfl)
variable {te ta tb tc' : TE} {t : TA} {tt uu : TT} {sp : Sp} {E : XK} {r r' : R2} {n : Nat} {f m : Str} {C dx : Addr} {fs : List (Str × V)}
theorem rd_var (h : σ[n]? = some (some v)) (q : Q v H) : tVar n σ H Q := ⟨v, h, q⟩
theorem rd_C (q : Q v H) : tC v σ H Q := q
theorem rd_op (h : ta σ H fun x H1 => tb σ H1 fun y H2 => r x y H2 Q) : tOp r ta tb σ H Q := h
theorem rd_test {R : Bool → Hp → Prop} (h : te σ H fun x H' => ∃ k, x = .bl k ∧ R k H') : tTest te σ H R := h
theorem rd_tB {R : Bool → Hp → Prop} (h : te σ H fun x H' => ∃ k, x = .bl k ∧ R k H') : tB te σ H R := h
theorem rd_chain (h : ta σ H fun x H1 => tb σ H1 fun y H2 => r x y H2 fun z H3 => ∃ k, z = .bl k ∧ (if k = true then tc' σ H3 fun w' H4 => r' y w' H4 Q else Q (.bl false) H3)) : tChain r r' ta tb tc' σ H Q := h
theorem rd_and {R : Bool → Hp → Prop} (h : tt σ H fun c H1 => if c = true then uu σ H1 R else R false H1) : tAnd tt uu σ H R := h
theorem rd_or {R : Bool → Hp → Prop} (h : tt σ H fun c H1 => if c = true then R true H1 else uu σ H1 R) : tOr tt uu σ H R := h
theorem rd_not {R : Bool → Hp → Prop} (h : tt σ H fun c H1 => R (!c) H1) : tNot tt σ H R := h
theorem rd_andV (h : ta σ H fun x H1 => ∃ k, x = .bl k ∧ (if k = true then tb σ H1 Q else Q (.bl false) H1)) : tAndV ta tb σ H Q := h
theorem rd_orV (h : ta σ H fun x H1 => ∃ k, x = .bl k ∧ (if k = true then Q (.bl true) H1 else tb σ H1 Q)) : tOrV ta tb σ H Q := h
theorem rd_notV (h : ta σ H fun x H1 => ∃ k, x = .bl k ∧ Q (.bl (!k)) H1) : tNotV ta σ H Q := h
theorem rd_if (h : tt σ H fun c H1 => if c = true then ta σ H1 Q else tb σ H1 Q) : tIf tt ta tb σ H Q := h
theorem rd_g (h : t σ H fun vs H1 => sp vs H1 Q E) : tG sp E t σ H Q := h
theorem rd_m (h : ta σ H fun x H1 => ∃ a, x = .ref a ∧ InsM H1 a C m ∧ t σ H1 fun vs H2 => sp (x :: vs) H2 Q E) : tM C m sp E ta t σ H Q := h
theorem rd_m_at (i : InsM H a C m) (h : t σ H fun vs H2 => sp (.ref a :: vs) H2 Q E) : ∃ a', V.ref a = .ref a' ∧ InsM H a' C m ∧ t σ H fun vs H2 => sp (V.ref a :: vs) H2 Q E := ⟨a, rfl, i, h⟩
theorem rd_nil {R : List V → Hp → Prop} (h : R [] H) : tNil σ H R := h
theorem rd_cons {R : List V → Hp → Prop} (h : te σ H fun x H1 => t σ H1 fun xs H2 => R (x :: xs) H2) : tCons te t σ H R := h
theorem rd_star {R : List V → Hp → Prop} (h : te σ H fun x H1 => ∃ p xs, x = V.ref p ∧ (SqT K H1 p xs ∨ SqL K H1 p xs) ∧ t σ H1 fun ys H2 => R (xs ++ ys) H2) : tStar K te t σ H R := h
theorem rd_tup (h : t σ H fun xs H1 => xs.length ≤ sizeLine ∧ ∀ p, H1 p = none → Q (.ref p) (upd H1 p (.tup xs))) : tTup t σ H Q := h
theorem rd_lst (h : t σ H fun xs H1 => xs.length ≤ sizeLine ∧ ∀ p, H1 p = none → Q (.ref p) (upd H1 p (.lst xs))) : tLst t σ H Q := h
def rFld (K : PySem.W.Frag) (f : Str) (x : V) (H1 : Hp) (Q : VK) : Prop := ∃ a C dx fs v, x = .ref a ∧ H1 a = some (.ins C dx fs) ∧ Cls K C ∧ NoAttr K C f ∧ fs.lookup f = some v ∧ Q v H1
theorem rd_fld (h : te σ H fun x H1 => rFld K f x H1 Q) : tFld K te f σ H Q := h
theorem rd_fld_at (e : H a = some (.ins C dx fs)) (c : Cls K C) (nn : NoAttr K C f) (l : fs.lookup f = some v) (q : Q v H) : rFld K f (.ref a) H Q := ⟨a, C, dx, fs, v, rfl, e, c, nn, l, q⟩
theorem rd_cb {rr : List V → Hp → VK → Prop} (h : t σ H fun vs H1 => rr vs H1 Q) : tCB rr t σ H Q := h
theorem rd_un {ru : V → Hp → VK → Prop} (h : ta σ H fun x H1 => ru x H1 Q) : tUn ru ta σ H Q := h
def rMk (C : Addr) (sp : Sp) (E : XK) (vs : List V) (H1 : Hp) (Q : VK) : Prop := ∀ x dx, H1 x = Option.none → H1 dx = Option.none → dx ≠ x → sp (V.ref x :: vs) (upd (upd H1 dx (.own x)) x (.ins C dx [])) (fun v H2 => v = .non ∧ Q (.ref x) H2) E
theorem rd_makeR (h : t σ H fun vs H1 => rMk C sp E vs H1 Q) : tMakeR C sp E t σ H Q := h
def rMkS (K : PySem.W.Frag) (C : Addr) (sp : Sp) (E : XK) (y : V) (H1 : Hp) (Q : VK) : Prop := ∃ a xs, y = V.ref a ∧ (SqT K H1 a xs ∨ SqL K H1 a xs) ∧ rMk C sp E xs H1 Q
theorem rd_makeS (h : ta σ H fun c H0 => c = V.ref C ∧ te σ H0 fun y H1 => rMkS K C sp E y H1 Q) : tMakeS K C sp E ta te σ H Q := h
theorem rd_mkS (hq : SqT K H a xs ∨ SqL K H a xs) (h : rMk C sp E xs H Q) : rMkS K C sp E (.ref a) H Q := ⟨a, xs, rfl, hq, h⟩
theorem rd_bm {T : String} {rm : V → List V → Hp → VK → Prop} (h : te σ H fun x H1 => tyV K T x H1 ∧ t σ H1 fun xs H2 => rm x xs H2 Q) : tBM K T rm te t σ H Q := h
theorem rd_bm0 {T : String} {rm : V → List V → Hp → VK → Prop} (h : te σ H fun x H1 => tyV K T x H1 ∧ rm x [] H1 Q) : tBM0 K T rm te σ H Q := h
theorem rd_ixI (h : Q v H) (hx : SqL K H a xs) (e : atI xs i = some v) : rIx K (.ref a) (.int i) H Q := .inl ⟨a, xs, i, v, rfl, rfl, hx, e, h⟩
theorem rd_ixT (h : Q v H) (hx : SqT K H a xs) (e : atI xs i = some v) : rIx K (.ref a) (.int i) H Q := .inr (.inl ⟨a, xs, i, v, rfl, rfl, hx, e, h⟩)
variable {nx ct bk : St → Hp → Prop} {rt : VK} {st su : TS} {D : Ends} {vs : List V} {g : TG} {gs : TGs} {R : St → Hp → Prop}
theorem rd_seq (h : st ⟨su ⟨nx, rt, bk, ct⟩, rt, bk, ct⟩ σ H) : tSeq st su ⟨nx, rt, bk, ct⟩ σ H := h
theorem rd_next (h : nx σ H) : tNext ⟨nx, rt, bk, ct⟩ σ H := h
theorem rd_break (h : bk σ H) : tBreak ⟨nx, rt, bk, ct⟩ σ H := h
theorem rd_cont (h : ct σ H) : tCont ⟨nx, rt, bk, ct⟩ σ H := h
theorem rd_ret (h : te σ H rt) : tRet te ⟨nx, rt, bk, ct⟩ σ H := h
theorem rd_retN (h : rt .non H) : tRetN ⟨nx, rt, bk, ct⟩ σ H := h
theorem rd_drop (h : te σ H fun _ H1 => nx σ H1) : tDrop te ⟨nx, rt, bk, ct⟩ σ H := h
theorem rd_ifS (h : tt σ H fun b H1 => if b = true then st D σ H1 else su D σ H1) : tIfS tt st su D σ H := h
theorem rd_asg (h : te σ H fun x H1 => g x σ H1 nx) : tAsg te g ⟨nx, rt, bk, ct⟩ σ H := h
theorem rd_name (h : R (σ.set n (some v)) H) : gName n v σ H R := h
theorem rd_gtup (hq : SqT K H a xs) (hl : xs.length = n) (h : gs xs σ H R) : gTup K n gs (.ref a) σ H R := ⟨a, xs, rfl, hq, hl, h⟩
theorem rd_gnil (h : R σ H) : gNil [] σ H R := ⟨rfl, h⟩
theorem rd_gcons (h : g v σ H fun σ' H' => gs vs σ' H' R) : gCons g gs (v :: vs) σ H R := ⟨v, vs, rfl, h⟩
theorem rd_gsub {s : TSet} (h : ta σ H fun o H1 => tb σ H1 fun i H2 => s o i v H2 fun H3 => R σ H3) : gSub ta tb s v σ H R := h
theorem rd_setL {P : Hp → Prop} {j : Nat} (ha : H a = some (.lst xs)) (hj : ixN xs.length i = some j) (h : P (upd H a (.lst (xs.set j v)))) : rSetL (.ref a) (.int i) v H P := ⟨a, xs, i, j, rfl, rfl, ha, hj, h⟩
theorem rd_aug {ti : TIp} (h : σ[n]? = some (some v)) (q : te σ H fun y H1 => ti v y H1 fun z H2 => nx (σ.set n (some z)) H2) : tAug n te ti ⟨nx, rt, bk, ct⟩ σ H := ⟨v, h, q⟩
theorem rd_ipI {fn : Int → Int → Int} (h : Q (.int (fn i j)) H) : ipI fn (.int i) (.int j) H Q := ⟨i, j, rfl, rfl, h⟩
def rSFld (K : PySem.W.Frag) (f : Str) (y x : V) (H2 : Hp) (k : Hp → Prop) : Prop := ∃ a C dx fs, x = .ref a ∧ H2 a = some (.ins C dx fs) ∧ Cls K C ∧ NoAttr K C f ∧ fs.length < 1000 ∧ k (upd H2 a (.ins C dx (putF f y fs)))
theorem rd_sfld (h : tb σ H fun y H1 => ta σ H1 fun x H2 => rSFld K f y x H2 (nx σ)) : sFld K ta tb f ⟨nx, rt, bk, ct⟩ σ H := h
theorem rd_sfld_at {y : V} {k : Hp → Prop} (e : H a = some (.ins C dx fs)) (c : Cls K C) (nn : NoAttr K C f) (l : fs.length < 1000) (h : k (upd H a (.ins C dx (putF f y fs)))) : rSFld K f y (.ref a) H k := ⟨a, C, dx, fs, rfl, e, c, nn, l, h⟩
theorem rd_for {wi : TI} (h : wi σ H fun J H1 => ∃ W : Nat → Nat → St → Hp → Prop, (∃ m, W 0 m σ H1) ∧ ∀ i m σ H, W i m σ H →
  (J.stop i H ∧ D.nx σ H) ∨ (J.go i H ∧ ∃ N : St → Hp → Prop, (∀ σ' H', N σ' H' → ∃ m', m' < m ∧ W (i + 1) m' σ' H') ∧ ∀ x H', J.yld i H x H' → g x σ H' fun σ2 H2 => st { D with nx := N, ct := N, bk := D.nx } σ2 H2)) : tFor wi g st D σ H := h
theorem rd_iList {Rr : It → Hp → Prop} (h : te σ H fun x H1 => ∃ a, x = .ref a ∧ (∃ xs, SqL K H1 a xs) ∧ Rr (Itl K a) H1) : iList K te σ H Rr := h
theorem rd_iTup {Rr : It → Hp → Prop} (h : te σ H fun x H1 => ∃ a, x = .ref a ∧ (∃ xs, SqT K H1 a xs) ∧ Rr (Itt K a) H1) : iTup K te σ H Rr := h
theorem rd_iRng1 {Rr : It → Hp → Prop} (h : t σ H fun vs H1 => ∃ j : Int, vs = [.int j] ∧ -(2 ^ 62) ≤ j ∧ j < 2 ^ 62 ∧ Rr (Itr 0 j.toNat) H1) : iRng1 t σ H Rr := h
theorem rd_iRng2 {Rr : It → Hp → Prop} (h : t σ H fun vs H1 => ∃ i j : Int, vs = [.int i, .int j] ∧ (-(2 ^ 62) ≤ i ∧ i < 2 ^ 62 ∧ -(2 ^ 62) ≤ j ∧ j < 2 ^ 62) ∧ Rr (Itr i (j - i).toNat) H1) : iRng2 t σ H Rr := h
theorem rd_iEnumT {Rr : It → Hp → Prop} (h : t σ H fun vs H1 => ∃ a xs, vs = [.ref a] ∧ SqT K H1 a xs ∧ Rr (IteT K a) H1) : iEnumT K t σ H Rr := h
theorem rd_match {tc : TC} (h : te σ H fun x H1 => tc x D σ H1) : tMatch te tc D σ H := h
theorem rd_par {l k : Nat} (h : t σ H fun vs H1 => ∃ v w, vs = [v, w] ∧ nx ((σ.set l (some v)).set k (some w)) H1) : tPar l k t ⟨nx, rt, bk, ct⟩ σ H := h
theorem rd_two {v w : V} {RR : V → V → Prop} (h : RR v w) : ∃ v' w', [v, w] = [v', w'] ∧ RR v' w' := ⟨v, w, rfl, h⟩
theorem rd_lc {wi : TI} {ws : List Nat} (h : wi σ H fun J H1 => ∀ D, H1 D = none → ∃ W : Nat → Nat → Hp → Prop, (∃ m, W 0 m (upd H1 D (.lst []))) ∧ ∀ i m H, W i m H →
  (J.stop i H ∧ Q (.ref D) H) ∨ (J.go i H ∧ ∃ Nx : Hp → Prop, (∀ H', Nx H' → ∃ m', m' < m ∧ W (i + 1) m' H') ∧ ∀ x H', J.yld i H x H' → g x (wipe σ ws) H' fun σ2 H2 => wipe σ2 ws = wipe σ ws ∧ tt σ2 H2 fun b H3 =>
    if b = true then te σ2 H3 fun y H4 => ∃ acc, H4 D = some (.lst acc) ∧ acc.length < sizeLine ∧ Nx (upd H4 D (.lst (acc ++ [y]))) else Nx H3)) : tLc wi g tt te ws σ H Q := h
theorem rd_yes {Rb : Bool → Hp → Prop} (h : Rb true H) : tYes σ H Rb := h
theorem Same.new {H H' : Hp} {p : Addr} {o : HO} (s : Same H H') (h : H' p = none) : Same H (upd H' p o) := fun b u e => by rw [upd_ne (ne_of_none (s b u e) h)]; exact s b u e
theorem Same.mut {H H' : Hp} {p : Addr} {o : HO} (s : Same H H') (h : H p = none) : Same H (upd H' p o) := fun b u e => by rw [upd_ne (ne_of_none e h)]; exact s b u e
theorem lk_new {o u : HO} {p : Addr} (h : H p = none) (e : H a = some u) : upd H p o a = some u := by rw [upd_ne (ne_of_none e h)]; exact e
theorem lk_ne {o u : HO} {p : Addr} (h : a ≠ p) (e : H a = some u) : upd H p o a = some u := by rw [upd_ne h]; exact e
theorem Same.tup {H H' : Hp} {K : PySem.W.Frag} {a : Addr} {xs : List V} (e : Same H H') (h : SqT K H a xs) : SqT K H' a xs := by
  rcases h with (h | ⟨o, h⟩) | h
  · exact .inl (.inl (e _ _ h))
  · exact .inl (.inr ⟨o, e _ _ h⟩)
  · exact .inr h
end
end L2.Px
set_option Elab.async false
set_option linter.all false
set_option maxRecDepth 100000
set_option maxHeartbeats 1000000
namespace L2.Px
open PySem PySem.Spec PyProof.Rows StX ClX
/-- the property f of the class at C -/
def DefP (K : PySem.W.Frag) (C : Addr) (f qual : Str) (st : Stmt) : Prop := ∃ p g fd, Fun K f qual st g fd ∧ PropOf K C f p g ∧ Binds K fd ["self"] []
def POk (P : Program) (w : World) (K : PySem.W.Frag) (mg : Str → Option Value) (base : Heap) (CX : CXT) (k : Nat) (C : Addr) (f : Str) (sp : Sp) : Prop :=
  ∃ p g fd, FnOk P w K mg base CX k g fd ["self"] sp ∧ PropOf K C f p g ∧ Binds K fd ["self"] []
/-- the classmethod m of the class at C -/
def DefC (K : PySem.W.Frag) (C : Addr) (m qual : Str) (st : Stmt) (ps : List Str) : Prop := ∃ mc p g fd, Fun K m qual st g fd ∧ CRead K C mc ∧ CMet K C mc m p g ∧ Binds K fd ps []
def COk (P : Program) (w : World) (K : PySem.W.Frag) (mg : Str → Option Value) (base : Heap) (CX : CXT) (k : Nat) (C : Addr) (m : Str) (sp : Sp) : Prop :=
  ∃ mc p g, FnR P w K mg base CX k g sp ∧ CRead K C mc ∧ CMet K C mc m p g
/-- __init__ of the class at C, all its parameters plain -/
def DefK (K : PySem.W.Frag) (C : Addr) (qual : Str) (st : Stmt) (ps : List Str) : Prop := ∃ f fd, Fun K "__init__" qual st f fd ∧ Mk K C f ∧ Binds K fd ps []
/-- __init__(self, *v) of the class at C -/
def DefKS (K : PySem.W.Frag) (C : Addr) (qual : Str) (st : Stmt) (ps : List Str) (pv : Str) : Prop := ∃ f fd, Fun K "__init__" qual st f fd ∧ Mk K C f ∧
  ∀ us rest : List Value, us.length = ps.length → bindArgs fd ⟨us ++ rest, []⟩ = (newTuple rest >>= fun t => pure (ps.zip us ++ [(pv, t)]))
/-- a def f(.., *v) -/
def DefGS (K : PySem.W.Frag) (mg : Str → Option Value) (x : Str) (st : Stmt) (ps : List Str) (pv : Str) : Prop := ∃ f fd, Fun K x x st f fd ∧ mg x = some (.ref f) ∧
  ∀ us rest : List Value, us.length = ps.length → bindArgs fd ⟨us ++ rest, []⟩ = (newTuple rest >>= fun t => pure (ps.zip us ++ [(pv, t)]))
/-- a def whose last parameters have defaults -/
def DefGD (K : PySem.W.Frag) (mg : Str → Option Value) (x : Str) (st : Stmt) (ps : List Str) (dvs : List V) : Prop := ∃ f fd ds, Fun K x x st f fd ∧ mg x = some (.ref f) ∧ Binds K fd ps ds ∧ Vals dvs ds
section
variable {P : Program} {w : World} {K : PySem.W.Frag} {mg : Str → Option Value} {base : Heap} {CX : CXT} {k : Nat} {f C : Addr} {fd : FuncData} {ps : List Str} {sp : Sp} {x m qual : Str} {st : Stmt}
theorem DefP.ok {N : List Str} (D : DefP K C m qual st) (S : FnScope N ["self"] (defScope st)) (len : ∀ vs H Q E, sp vs H Q E → vs.length = 1)
    (hbody : ∀ (f : Addr) (cdv : Value) (A : Around) (outer : List Env) (s : Shared) (H : Hp) (vs : List V) (Q : VK) (E : XK), Room k (A.deeper (envOfC qual (defScope st) s.heap.objs.size f cdv)) → sp vs H Q E →
      ∃ t, PSs (cxOf CX0 P w K mg base N qual (defScope st) f cdv A outer s H E).nox (defBody st) t ∧ t { nx := fun _ H' => Q .non H', rt := Q } (start N vs) H) : POk P w K mg base CX0 (k + 1) C m sp := by
  obtain ⟨p, g, fd, F, hp, b⟩ := D
  exact ⟨p, g, fd, F.ok S len fun cdv A outer s H vs Q E hr h => hbody g cdv A outer s H vs Q E hr h, hp, b⟩
theorem DefC.ok {N : List Str} (D : DefC K C m qual st ps) (S : FnScope N ps (defScope st)) (len : ∀ vs H Q E, sp vs H Q E → vs.length = ps.length)
    (hbody : ∀ (f : Addr) (cdv : Value) (A : Around) (outer : List Env) (s : Shared) (H : Hp) (vs : List V) (Q : VK) (E : XK), Room k (A.deeper (envOfC qual (defScope st) s.heap.objs.size f cdv)) → sp vs H Q E →
      ∃ t, PSs (cxOf CX0 P w K mg base N qual (defScope st) f cdv A outer s H E).nox (defBody st) t ∧ t { nx := fun _ H' => Q .non H', rt := Q } (start N vs) H) : COk P w K mg base CX0 (k + 1) C m sp := by
  obtain ⟨mc, p, g, fd, F, r, c, b⟩ := D
  exact ⟨mc, p, g, FnOk.toR (F.ok S len fun cdv A outer s H vs Q E hr h => hbody g cdv A outer s H vs Q E hr h) b, r, c⟩
theorem DefK.ok {N : List Str} (D : DefK K C qual st ps) (S : FnScope N ps (defScope st)) (len : ∀ vs H Q E, sp vs H Q E → vs.length = ps.length)
    (hbody : ∀ (f : Addr) (cdv : Value) (A : Around) (outer : List Env) (s : Shared) (H : Hp) (vs : List V) (Q : VK) (E : XK), Room k (A.deeper (envOfC qual (defScope st) s.heap.objs.size f cdv)) → sp vs H Q E →
      ∃ t, PSs (cxOf CX0 P w K mg base N qual (defScope st) f cdv A outer s H E).nox (defBody st) t ∧ t { nx := fun _ H' => Q .non H', rt := Q } (start N vs) H) : KOk P w K mg base CX0 (k + 1) C sp := by
  obtain ⟨f, fd, F, M, b⟩ := D
  exact ⟨f, FnOk.toR (F.ok S len fun cdv A outer s H vs Q E hr h => hbody f cdv A outer s H vs Q E hr h) b, M⟩
/-- the star promise around the body's own -/
def spStar (n : Nat) (sp : Sp) : Sp := fun vs H Q E => ∃ ws rest, vs = ws ++ rest ∧ ws.length = n ∧ rest.length ≤ sizeLine ∧ ∀ p, H p = Option.none → sp (ws ++ [V.ref p]) (upd H p (.tup rest)) Q E
theorem DefKS.ok {N : List Str} {pv : Str} (D : DefKS K C qual st ps pv) (S : FnScope N (ps ++ [pv]) (defScope st))
    (hbody : ∀ (f : Addr) (cdv : Value) (A : Around) (outer : List Env) (s : Shared) (H : Hp) (vs : List V) (Q : VK) (E : XK), Room k (A.deeper (envOfC qual (defScope st) s.heap.objs.size f cdv)) → sp vs H Q E →
      ∃ t, PSs (cxOf CX0 P w K mg base N qual (defScope st) f cdv A outer s H E).nox (defBody st) t ∧ t { nx := fun _ H' => Q .non H', rt := Q } (start N vs) H) : KOk P w K mg base CX0 (k + 1) C (spStar ps.length sp) := by
  obtain ⟨f, fd, F, M, hb⟩ := D
  obtain ⟨oc, od, kV, doc, pm, an, cdv, ct, osl, rfl, lk, hcd⟩ := F.ex
  refine ⟨f, fn_star (sp := sp) lk hcd S cxUp_none hb fun A outer s H vs Q E hr h => ?_, M⟩
  obtain ⟨t, ht, q⟩ := hbody f cdv A outer s H vs Q E hr h
  exact ⟨t, ht.nox, q⟩
theorem DefGS.ok {N : List Str} {pv : Str} (D : DefGS K mg x st ps pv) (S : FnScope N (ps ++ [pv]) (defScope st))
    (hbody : ∀ (f : Addr) (cdv : Value) (A : Around) (outer : List Env) (s : Shared) (H : Hp) (vs : List V) (Q : VK) (E : XK), Room k (A.deeper (envOfC x (defScope st) s.heap.objs.size f cdv)) → sp vs H Q E →
      ∃ t, PSs (cxOf CX0 P w K mg base N x (defScope st) f cdv A outer s H E).nox (defBody st) t ∧ t { nx := fun _ H' => Q .non H', rt := Q } (start N vs) H) : GOk P w K mg base CX0 (k + 1) x (spStar ps.length sp) := by
  obtain ⟨f, fd, F, a, hb⟩ := D
  obtain ⟨oc, od, kV, doc, pm, an, cdv, ct, osl, rfl, lk, hcd⟩ := F.ex
  refine ⟨f, fn_star (sp := sp) lk hcd S cxUp_none hb fun A outer s H vs Q E hr h => ?_, a, F.kp⟩
  obtain ⟨t, ht, q⟩ := hbody f cdv A outer s H vs Q E hr h
  exact ⟨t, ht.nox, q⟩
theorem DefGD.ok {N : List Str} {dvs : List V} (D : DefGD K mg x st ps dvs) (S : FnScope N ps (defScope st)) (len : ∀ vs H Q E, sp vs H Q E → vs.length = ps.length)
    (hbody : ∀ (f : Addr) (cdv : Value) (A : Around) (outer : List Env) (s : Shared) (H : Hp) (vs : List V) (Q : VK) (E : XK), Room k (A.deeper (envOfC x (defScope st) s.heap.objs.size f cdv)) → sp vs H Q E →
      ∃ t, PSs (cxOf CX0 P w K mg base N x (defScope st) f cdv A outer s H E).nox (defBody st) t ∧ t { nx := fun _ H' => Q .non H', rt := Q } (start N vs) H) : GOk P w K mg base CX0 (k + 1) x (fun vs => sp (vs ++ dvs)) := by
  obtain ⟨f, fd, ds, F, a, b, hd⟩ := D
  exact ⟨f, FnOk.toR1 (F.ok S len fun cdv A outer s H vs Q E hr h => hbody f cdv A outer s H vs Q E hr h) b hd, a, F.kp⟩
end
section
variable {X : Cx} {CX : CXT} {k : Nat} {C : Addr} {sp : Sp} {E : XK} {f m : Str} {e o : Expr} {es : List Expr} {te ta : TE} {t : TA} {p pos apos : Pos}
theorem pe_p (he : PE X e ta) (c : Cls X.K C) (G : POk X.prog X.w X.K X.mg X.base CX k C f sp) (hr : Room (k + 1) X.A) (hx : Passes CX X.nox E) (hab : attributeBase e f X.env (eval e X.env) = eval e X.env := by rfl) : PE X (.Attribute e f pos) (tProp C sp [] E ta) :=
  let ⟨_, _, _, F, hp, b⟩ := G
  pe_prop he c hp F hr b .nil hx hab
theorem pe_c {pl : Sem Bool} (he : PE X o ta) (G : COk X.prog X.w X.K X.mg X.base CX k C m sp) (hr : Room k X.A) (hx : Passes CX X E) (ha : PA X (e :: es) t)
    (hst : starEach (e :: es) X.env = (false, eval e X.env) :: starEach es X.env := by rfl) (hpl : (backTo pos (starEach es X.env)).any (·.1) = false := by rfl)
    (ht : eval (.Call (.Attribute o m apos) (e :: es) [] pos) X.env = (do
      let ov ← eval o X.env
      standAt apos.atName
      let (f, first) ← holding [ov] (getMethod ov m pl)
      callWith pos f first (backTo pos (starEach (e :: es) X.env)) (backToKw pos (keywordEach [] X.env))) := by rfl) :
    PE X (.Call (.Attribute o m apos) (e :: es) [] pos) (tCMeth C sp E ta t) :=
  let ⟨_, _, _, F, r, c⟩ := G
  pe_cmeth (pl := pl) he r c F hr hx ha hst hpl ht
theorem rd_prop {σ : St} {H : Hp} {Q : VK} (h : ta σ H fun x H1 => ∃ a dx fs, x = .ref a ∧ H1 a = some (.ins C dx fs) ∧ sp [.ref a] H1 Q E) : tProp C sp [] E ta σ H Q := h
theorem rd_prop_at {a : Addr} {H : Hp} {Q : VK} (i : InsA H a C) (h : sp [.ref a] H Q E) : ∃ a' dx fs, V.ref a = .ref a' ∧ H a' = some (.ins C dx fs) ∧ sp [.ref a'] H Q E := let ⟨dx, fs, e⟩ := i; ⟨a, dx, fs, rfl, e, h⟩
theorem rd_cmeth {σ : St} {H : Hp} {Q : VK} (h : ta σ H fun x H1 => x = .ref C ∧ t σ H1 fun vs H2 => sp (.ref C :: vs) H2 Q E) : tCMeth C sp E ta t σ H Q := h
/-- calling an instance -/
def OOk (P : Program) (w : World) (K : PySem.W.Frag) (mg : Str → Option Value) (base : Heap) (CX : CXT) (k : Nat) (C : Addr) (sp : Sp) : Prop := ∃ g, FnR P w K mg base CX k g sp ∧ CallO K C g
def tO (C : Addr) (sp : Sp) (E : XK) (tf : TE) (t : TA) : TE := fun σ H Q => tf σ H fun y H1 => ∃ a, y = V.ref a ∧ t σ H1 fun vs H2 => InsA H2 a C ∧ sp (V.ref a :: vs) H2 Q E
theorem rd_o {σ : St} {H : Hp} {Q : VK} (h : ta σ H fun y H1 => ∃ a, y = V.ref a ∧ t σ H1 fun vs H2 => InsA H2 a C ∧ sp (V.ref a :: vs) H2 Q E) : tO C sp E ta t σ H Q := h
end
end L2.Px
namespace L2.Px
open PySem PySem.Spec PyProof.Rows StX ClX
def DefX (K : PySem.W.Frag) (R : Addr → Prop) (m qual : Str) (st : Stmt) (ps : List Str) : Prop := ∃ f fd, Fun K m qual st f fd ∧ R f ∧ Binds K fd ps []
def XOk (P : Program) (w : World) (K : PySem.W.Frag) (mg : Str → Option Value) (base : Heap) (CX : CXT) (k : Nat) (R : Addr → Prop) (sp : Sp) : Prop := ∃ f, FnR P w K mg base CX k f sp ∧ R f
section
variable {P : Program} {w : World} {K : PySem.W.Frag} {mg : Str → Option Value} {base : Heap} {CX : CXT} {k : Nat} {f C : Addr} {fd : FuncData} {ps : List Str} {sp : Sp} {x m qual : Str} {st : Stmt} {R : Addr → Prop}
theorem DefX.ok {N : List Str} (D : DefX K R m qual st ps) (S : FnScope N ps (defScope st)) (len : ∀ vs H Q E, sp vs H Q E → vs.length = ps.length)
    (hbody : ∀ (f : Addr) (cdv : Value) (A : Around) (outer : List Env) (s : Shared) (H : Hp) (vs : List V) (Q : VK) (E : XK), Room k (A.deeper (envOfC qual (defScope st) s.heap.objs.size f cdv)) → sp vs H Q E →
      ∃ t, PSs (cxOf CX0 P w K mg base N qual (defScope st) f cdv A outer s H E).nox (defBody st) t ∧ t { nx := fun _ H' => Q .non H', rt := Q } (start N vs) H) : XOk P w K mg base CX0 (k + 1) R sp := by
  obtain ⟨f, fd, F, r, b⟩ := D
  exact ⟨f, FnOk.toR (F.ok S len fun cdv A outer s H vs Q E hr h => hbody f cdv A outer s H vs Q E hr h) b, r⟩
end
section
variable {X : Cx} {CX : CXT} {k : Nat} {C : Addr} {sp : Sp} {E : XK} {a b : Expr} {ta tb : TE} {pos : Pos}
theorem pe_ixO (G : XOk X.prog X.w X.K X.mg X.base CX k (IOwn X.K C) sp) (hr : Room (k + 1) X.A) (hx : Passes CX X E) (ha : PE X a ta) (hb : PE X b tb)
    (hsl : ∀ x i, subscripted b true (.ref x) i = runValue (.builtin "lifetime.subscript" ⟨[.ref x, i], []⟩) := by intros; rfl) : PE X (.Subscript a b pos) (tIxOwn C sp E ta tb) :=
  let ⟨_, F, r⟩ := G
  pe_ixOwn r F hr hx ha hb hsl
theorem rd_own {p q : Addr} {H : Hp} {Q : VK} (i : InsA H p C) (j : InsA H q C) (h : sp [.ref p, .ref q] H Q E) : rOwn C sp E (.ref p) (.ref q) H Q := ⟨p, q, rfl, rfl, i, j, h⟩
theorem rd_ownI {p : Addr} {z : Int} {H : Hp} {Q : VK} (i : InsA H p C) (h : sp [.ref p, .int z] H Q E) : rOwnI C sp E (.ref p) (.int z) H Q := ⟨p, z, rfl, rfl, i, h⟩
end
end L2.Px
set_option Elab.async false
set_option linter.all false
namespace L2.Px
open PySem L2 TL
inductive Stp where
  | wr (w : Str)
  | pa (f l t : Nat)
deriving DecidableEq
def len1 : Stp → Nat
  | .wr w => w.length
  | .pa f l t => (l - f + 1) * t
def sz : List Stp → Nat
  | [] => 0
  | s :: r => len1 s + sz r
def ty1 : Stp → List Nat
  | .wr w => tl w
  | .pa _ _ _ => []
def tyL : List Stp → List Nat
  | [] => []
  | s :: r => ty1 s ++ tyL r
def okStep (n : Nat) : Stp → Prop
  | .wr w => 1 ≤ w.length ∧ w.length ≤ 20 ∧ ∀ c ∈ tl w, 97 ≤ c ∧ c ≤ 122
  | .pa f l t => f ≤ l ∧ l < n ∧ 1 ≤ t ∧ t ≤ 1000000000
def okFrom : Nat → List Stp → Prop
  | _, [] => True
  | n, s :: r => okStep n s ∧ n + len1 s ≤ 1000000000000000000 ∧ okFrom (n + len1 s) r
def stepK (q : List Nat × Nat) : Stp → List Nat × Nat
  | .wr w => (q.1 ++ List.range' q.2 w.length, q.2 + w.length)
  | .pa f l t => (q.1 ++ (List.replicate t ((q.1.drop f).take (l - f + 1))).flatten, q.2)
def run (ss : List Stp) : List Nat × Nat := ss.foldl stepK ([], 0)
/-- the keys of all places -/
def ks (ss : List Stp) : List Nat := (run ss).1
theorem sz_append : ∀ (a b : List Stp), sz (a ++ b) = sz a + sz b
  | [], b => by simp [sz]
  | s :: a, b => by simp only [List.cons_append, sz]; rw [sz_append a b]; omega
theorem tyL_append : ∀ (a b : List Stp), tyL (a ++ b) = tyL a ++ tyL b
  | [], b => by simp [tyL]
  | s :: a, b => by simp only [List.cons_append, tyL]; rw [tyL_append a b, List.append_assoc]
theorem okFrom_append : ∀ (n : Nat) (a b : List Stp), okFrom n (a ++ b) ↔ okFrom n a ∧ okFrom (n + sz a) b
  | n, [], b => by simp [okFrom, sz]
  | n, s :: a, b => by
    simp only [List.cons_append, okFrom, sz]
    rw [okFrom_append (n + len1 s) a b, show n + (len1 s + sz a) = n + len1 s + sz a by omega]
    constructor
    · rintro ⟨h1, h2, h3, h4⟩; exact ⟨⟨h1, h2, h3⟩, h4⟩
    · rintro ⟨⟨h1, h2, h3⟩, h4⟩; exact ⟨h1, h2, h3, h4⟩
theorem run_append (a b : List Stp) : run (a ++ b) = b.foldl stepK (run a) := List.foldl_append
theorem take_snoc {α : Type} {l : List α} {j : Nat} {s : α} (h : l[j]? = some s) : l.take (j + 1) = l.take j ++ [s] := by
  rw [List.take_add_one, h]; rfl
theorem sz_take {ss : List Stp} {j : Nat} {s : Stp} (h : ss[j]? = some s) : sz (ss.take (j + 1)) = sz (ss.take j) + len1 s := by
  rw [take_snoc h, sz_append]; simp [sz]
theorem run_take {ss : List Stp} {j : Nat} {s : Stp} (h : ss[j]? = some s) : run (ss.take (j + 1)) = stepK (run (ss.take j)) s := by
  rw [take_snoc h, run_append]; rfl
theorem tyL_take {ss : List Stp} {j : Nat} {s : Stp} (h : ss[j]? = some s) : tyL (ss.take (j + 1)) = tyL (ss.take j) ++ ty1 s := by
  rw [take_snoc h, tyL_append]; simp [tyL]
theorem ok_at {ss : List Stp} {j : Nat} {s : Stp} (ok : okFrom 0 ss) (h : ss[j]? = some s) : okStep (sz (ss.take j)) s ∧ sz (ss.take j) + len1 s ≤ 1000000000000000000 := by
  have e : ss = ss.take j ++ (s :: ss.drop (j + 1)) := by
    have hj : j < ss.length := (List.getElem?_eq_some_iff.mp h).1
    have hs : ss[j] = s := (List.getElem?_eq_some_iff.mp h).2
    rw [← hs, ← List.drop_eq_getElem_cons hj, List.take_append_drop]
  rw [e, okFrom_append] at ok
  obtain ⟨_, h1, h2, _⟩ := ok
  simp only [Nat.zero_add] at h1 h2
  exact ⟨h1, h2⟩
theorem ok_take {ss : List Stp} (ok : okFrom 0 ss) (j : Nat) : okFrom 0 (ss.take j) := by
  rw [← List.take_append_drop j ss, okFrom_append] at ok
  exact ok.1
theorem sz_le {ss : List Stp} (ok : okFrom 0 ss) : sz ss ≤ 1000000000000000000 := by
  rcases Nat.eq_zero_or_pos ss.length with h | h
  · rw [List.length_eq_zero_iff.mp h]; simp [sz]
  · have hj : ss[ss.length - 1]? = some (ss[ss.length - 1]'(by omega)) := by rw [List.getElem?_eq_getElem]
    have := (ok_at ok hj).2
    rw [← sz_take hj, show ss.length - 1 + 1 = ss.length by omega, List.take_length] at this
    exact this
theorem run_snd_from : ∀ (ss : List Stp) (q : List Nat × Nat), (ss.foldl stepK q).2 = q.2 + (tyL ss).length
  | [], q => by simp [tyL]
  | .wr w :: r, q => by
    simp only [List.foldl_cons, tyL, List.length_append, ty1]
    rw [run_snd_from r]; simp only [stepK]; rw [len_tl w]; omega
  | .pa f l t :: r, q => by
    simp only [List.foldl_cons, tyL, List.length_append, ty1]
    rw [run_snd_from r]; simp [stepK]
theorem run_snd (ss : List Stp) : (run ss).2 = (tyL ss).length := by
  unfold run; rw [run_snd_from]; simp
theorem length_flat_rep {α : Type} (t : Nat) (l : List α) : (List.replicate t l).flatten.length = t * l.length := by
  induction t with
  | zero => simp
  | succ t ih => rw [List.replicate_succ, List.flatten_cons, List.length_append, ih, Nat.succ_mul]; omega
theorem stepK_len {q : List Nat × Nat} {s : Stp} (h : okStep q.1.length s) : (stepK q s).1.length = q.1.length + len1 s := by
  cases s with
  | wr w => simp [stepK, len1]
  | pa f l t =>
    obtain ⟨h1, h2, _, _⟩ := h
    simp only [stepK, len1, List.length_append, length_flat_rep, List.length_take, List.length_drop]
    rw [Nat.min_eq_left (by omega), Nat.mul_comm]
theorem ks_len_from : ∀ (ss : List Stp) (q : List Nat × Nat), okFrom q.1.length ss → (ss.foldl stepK q).1.length = q.1.length + sz ss
  | [], q, _ => by simp [sz]
  | s :: r, q, ok => by
    obtain ⟨h1, h2, h3⟩ := ok
    have e := stepK_len h1
    rw [List.foldl_cons, ks_len_from r _ (by rw [e]; exact h3), e]
    simp only [sz]; omega
theorem ks_len {ss : List Stp} (ok : okFrom 0 ss) : (ks ss).length = sz ss := by
  have := ks_len_from ss ([], 0) ok
  simpa [ks, run] using this
/-- the keys of the first steps' places stand ahead -/
theorem stepK_pre (q : List Nat × Nat) (s : Stp) : ∃ m, (stepK q s).1 = q.1 ++ m := by
  cases s <;> exact ⟨_, rfl⟩
theorem run_pre : ∀ (ss : List Stp) (q : List Nat × Nat), ∃ m, (ss.foldl stepK q).1 = q.1 ++ m
  | [], q => ⟨[], by simp⟩
  | s :: r, q => by
    obtain ⟨m, e⟩ := stepK_pre q s
    obtain ⟨m', e'⟩ := run_pre r (stepK q s)
    exact ⟨m ++ m', by rw [List.foldl_cons, e', e, List.append_assoc]⟩
theorem ks_pre (a b : List Stp) : ∃ m, ks (a ++ b) = ks a ++ m := by
  unfold ks
  rw [run_append]
  exact run_pre b (run a)
theorem ks_take {ss : List Stp} (ok : okFrom 0 ss) (j : Nat) {p : Nat} (h : p < sz (ss.take j)) : (ks ss)[p]? = (ks (ss.take j))[p]? := by
  obtain ⟨m, e⟩ := ks_pre (ss.take j) (ss.drop j)
  rw [List.take_append_drop] at e
  rw [e, List.getElem?_append_left (by rw [ks_len (ok_take ok j)]; exact h)]
theorem flat_rep_get {α : Type} {l : List α} (hl : 0 < l.length) : ∀ (t i : Nat), i < t * l.length → (List.replicate t l).flatten[i]? = l[i % l.length]?
  | 0, i, h => by simp at h
  | t + 1, i, h => by
    rw [List.replicate_succ, List.flatten_cons]
    by_cases hi : i < l.length
    · rw [List.getElem?_append_left hi, Nat.mod_eq_of_lt hi]
    · rw [List.getElem?_append_right (by omega), flat_rep_get hl t (i - l.length) (by rw [Nat.succ_mul] at h; omega)]
      rw [← Nat.mod_eq_sub_mod (by omega)]
/-- a typed place -/
theorem ks_wr {ss : List Stp} {j : Nat} {w : Str} (ok : okFrom 0 ss) (h : ss[j]? = some (.wr w)) {p : Nat} (h1 : sz (ss.take j) ≤ p) (h2 : p < sz (ss.take (j + 1))) : (ks ss)[p]? = some ((tyL (ss.take j)).length + (p - sz (ss.take j))) := by
  rw [ks_take ok (j + 1) h2]
  have hs := sz_take h
  simp only [len1] at hs
  unfold ks
  rw [run_take h]
  simp only [stepK]
  have e : (run (ss.take j)).1.length = sz (ss.take j) := ks_len (ok_take ok j)
  rw [List.getElem?_append_right (by rw [e]; exact h1), e, run_snd, List.getElem?_range' (by omega)]
  simp
/-- a pasted place -/
theorem ks_pa {ss : List Stp} {j f l t : Nat} (ok : okFrom 0 ss) (h : ss[j]? = some (.pa f l t)) {p : Nat} (h1 : sz (ss.take j) ≤ p) (h2 : p < sz (ss.take (j + 1))) :
    f + (p - sz (ss.take j)) % (l - f + 1) < sz (ss.take j) ∧ (ks ss)[p]? = (ks ss)[f + (p - sz (ss.take j)) % (l - f + 1)]? := by
  obtain ⟨⟨a1, a2, a3, a4⟩, _⟩ := ok_at ok h
  have hm : (p - sz (ss.take j)) % (l - f + 1) < l - f + 1 := Nat.mod_lt _ (by omega)
  refine ⟨by omega, ?_⟩
  rw [ks_take ok (j + 1) h2, ks_take ok j (p := f + (p - sz (ss.take j)) % (l - f + 1)) (by omega)]
  have hs := sz_take h
  simp only [len1] at hs
  have e : (run (ss.take j)).1.length = sz (ss.take j) := ks_len (ok_take ok j)
  unfold ks
  rw [run_take h]
  simp only [stepK]
  have el : (((run (ss.take j)).1.drop f).take (l - f + 1)).length = l - f + 1 := by
    rw [List.length_take, List.length_drop, e]; omega
  rw [List.getElem?_append_right (by rw [e]; exact h1), e, flat_rep_get (by rw [el]; omega) _ _ (by rw [el, Nat.mul_comm]; omega), el, List.getElem?_take]
  rw [if_pos hm, List.getElem?_drop]
/-- all keys are keys -/
theorem stepK_lt {q : List Nat × Nat} {s : Stp} (h : ∀ k ∈ q.1, k < q.2) : ∀ k ∈ (stepK q s).1, k < (stepK q s).2 := by
  cases s with
  | wr w =>
    intro k hk
    simp only [stepK, List.mem_append, List.mem_range'_1] at hk ⊢
    rcases hk with hk | hk
    · have := h k hk; omega
    · omega
  | pa f l t =>
    intro k hk
    simp only [stepK, List.mem_append, List.mem_flatten, List.mem_replicate] at hk ⊢
    rcases hk with hk | ⟨l', ⟨_, rfl⟩, hk⟩
    · exact h k hk
    · exact h k (List.mem_of_mem_drop (List.mem_of_mem_take hk))
theorem run_lt : ∀ (ss : List Stp) (q : List Nat × Nat), (∀ k ∈ q.1, k < q.2) → ∀ k ∈ (ss.foldl stepK q).1, k < (ss.foldl stepK q).2
  | [], q, h => h
  | s :: r, q, h => run_lt r _ (stepK_lt h)
theorem ks_lt {ss : List Stp} {k : Nat} (h : k ∈ ks ss) : k < (tyL ss).length := by
  have := run_lt ss ([], 0) (by simp) k h
  rw [← run_snd]; exact this
end L2.Px
set_option Elab.async false
set_option linter.all false
set_option maxRecDepth 100000
set_option maxHeartbeats 1000000
namespace L2.Px
open PySem PySem.Spec PyProof.Rows StX TL
def isInt (lo hi : Int) : V → Bool
  | .int i => decide (lo ≤ i ∧ i ≤ hi)
  | _ => false
def isLet : V → Bool
  | .str x => match tl x with
    | [c] => decide (97 ≤ c ∧ c ≤ 122)
    | _ => false
  | _ => false
def isWd : V → Bool
  | .str x => decide (1 ≤ (tl x).length ∧ (tl x).length ≤ 20 ∧ ∀ c ∈ tl x, 97 ≤ c ∧ c ≤ 122)
  | _ => false
def intOf : V → Int
  | .int i => i
  | _ => 0
def isSt (n : Int) : List V → Bool
  | [.str z, v] => decide (z = "write") && isWd v
  | [.str z, f, l, t] => decide (z = "paste") && (isInt 0 (n - 1) l && isInt 0 (intOf l) f && isInt 1 1000000000 t)
  | _ => false
def sp_is_integer : Sp := fun vs H Q _ => ∃ v lo hi, vs = [v, .int lo, .int hi] ∧ NoSeq v ∧ Q (.bl (isInt lo hi v)) H
def sp_is_letter : Sp := fun vs H Q _ => ∃ v, vs = [v] ∧ NoSeq v ∧ (∀ x, v = .str x → x.length ≤ sizeLine) ∧ Q (.bl (isLet v)) H
def sp_is_word : Sp := fun vs H Q _ => ∃ v, vs = [v] ∧ NoSeq v ∧ (∀ x, v = .str x → x.length ≤ sizeLine) ∧ ∀ H', Same H H' → Q (.bl (isWd v)) H'
def mkS (l : List Nat) : Str := ⟨l.toArray⟩
theorem tl_mkS (l : List Nat) : tl (mkS l) = l := rfl
theorem mkS_tl (x : Str) : mkS (tl x) = x := mk_tl x
theorem mkS_len (l : List Nat) : (mkS l).length = l.length := by rw [len_tl, tl_mkS]
theorem mkS_app (a b : List Nat) : mkS a ++ mkS b = mkS (a ++ b) := ext_tl (by rw [tl_append, tl_mkS, tl_mkS, tl_mkS])
def partF (s n : Int) (t : Bool) (f l : Int) : List (Str × V) := putF "last" (.int l) (putF "first" (.int f) (putF "is_typed" (.bl t) (putF "length" (.int n) (putF "start" (.int s) []))))
def textF (m : Addr) (y : Str) (p : Addr) (n : Int) : List (Str × V) := putF "total" (.int n) (putF "parts" (.ref p) (putF "typed" (.str y) (putF "made" (.ref m) [])))
section
variable {s n f l : Int} {t : Bool} {m p : Addr} {y x : Str}
theorem partF_start : (partF s n t f l).lookup ("start" : Str) = some (.int s) := by
  unfold partF; rw [lookup_putF, if_neg (by decide +kernel), lookup_putF, if_neg (by decide +kernel), lookup_putF, if_neg (by decide +kernel), lookup_putF, if_neg (by decide +kernel), lookup_putF, if_pos rfl]
theorem partF_length : (partF s n t f l).lookup ("length" : Str) = some (.int n) := by
  unfold partF; rw [lookup_putF, if_neg (by decide +kernel), lookup_putF, if_neg (by decide +kernel), lookup_putF, if_neg (by decide +kernel), lookup_putF, if_pos rfl]
theorem partF_typed : (partF s n t f l).lookup ("is_typed" : Str) = some (.bl t) := by
  unfold partF; rw [lookup_putF, if_neg (by decide +kernel), lookup_putF, if_neg (by decide +kernel), lookup_putF, if_pos rfl]
theorem partF_first : (partF s n t f l).lookup ("first" : Str) = some (.int f) := by
  unfold partF; rw [lookup_putF, if_neg (by decide +kernel), lookup_putF, if_pos rfl]
theorem partF_last : (partF s n t f l).lookup ("last" : Str) = some (.int l) := by
  unfold partF; rw [lookup_putF, if_pos rfl]
theorem partF_no (h : x ≠ "last" ∧ x ≠ "first" ∧ x ≠ "is_typed" ∧ x ≠ "length" ∧ x ≠ "start") : (partF s n t f l).lookup x = none := by
  unfold partF; rw [lookup_putF, if_neg h.1, lookup_putF, if_neg h.2.1, lookup_putF, if_neg h.2.2.1, lookup_putF, if_neg h.2.2.2.1, lookup_putF, if_neg h.2.2.2.2]; rfl
theorem textF_made : (textF m y p n).lookup ("made" : Str) = some (.ref m) := by
  unfold textF; rw [lookup_putF, if_neg (by decide +kernel), lookup_putF, if_neg (by decide +kernel), lookup_putF, if_neg (by decide +kernel), lookup_putF, if_pos rfl]
theorem textF_typed : (textF m y p n).lookup ("typed" : Str) = some (.str y) := by
  unfold textF; rw [lookup_putF, if_neg (by decide +kernel), lookup_putF, if_neg (by decide +kernel), lookup_putF, if_pos rfl]
theorem textF_parts : (textF m y p n).lookup ("parts" : Str) = some (.ref p) := by
  unfold textF; rw [lookup_putF, if_neg (by decide +kernel), lookup_putF, if_pos rfl]
theorem textF_total : (textF m y p n).lookup ("total" : Str) = some (.int n) := by
  unfold textF; rw [lookup_putF, if_pos rfl]
theorem textF_no (h : x ≠ "total" ∧ x ≠ "parts" ∧ x ≠ "typed" ∧ x ≠ "made") : (textF m y p n).lookup x = none := by
  unfold textF; rw [lookup_putF, if_neg h.1, lookup_putF, if_neg h.2.1, lookup_putF, if_neg h.2.2.1, lookup_putF, if_neg h.2.2.2]; rfl
theorem putF_len {fs : List (Str × V)} {k : Nat} {f : Str} {v : V} (h : fs.length ≤ k) : (putF f v fs).length ≤ k + 1 := Nat.le_trans (length_putF f v fs) (Nat.succ_le_succ h)
end
/-- a written step as a tuple's items -/
def stV : Stp → List V
  | .wr w => [.str "write", .str w]
  | .pa f l t => [.str "paste", .int f, .int l, .int t]
def StepAt (K : PySem.W.Frag) (H : Hp) (v : V) (s : Stp) : Prop := ∃ a, v = .ref a ∧ SqT K H a (stV s)
def StepsAt (K : PySem.W.Frag) (H : Hp) (ms : List V) (ss : List Stp) : Prop := ms.length = ss.length ∧ ∀ (j : Nat) s, ss[j]? = some s → ∃ v, ms[j]? = some v ∧ StepAt K H v s
/-- the part of step j -/
def PartAt (CP : Addr) (H : Hp) (v : V) (n y : Nat) : Stp → Prop
  | .wr w => ∃ p dx, v = .ref p ∧ H p = some (.ins CP dx (partF n w.length true y 0))
  | .pa f l t => ∃ p dx, v = .ref p ∧ H p = some (.ins CP dx (partF n (((l - f + 1) * t : Nat)) false f l))
def PartsAt (CP : Addr) (H : Hp) (ps : List V) (ss : List Stp) : Prop := ps.length = ss.length ∧ ∀ (j : Nat) s, ss[j]? = some s → ∃ v, ps[j]? = some v ∧ PartAt CP H v (sz (ss.take j)) (tyL (ss.take j)).length s
structure TxI where
  ss : List Stp
  dx : Addr
  m : Addr
  pl : Addr
  ms : List V
  ps : List V
structure TextAt (K : PySem.W.Frag) (CT CP : Addr) (H : Hp) (a : Addr) (t : TxI) : Prop where
  ins : H a = some (.ins CT t.dx (textF t.m (mkS (tyL t.ss)) t.pl (sz t.ss)))
  made : SqT K H t.m t.ms
  stp : StepsAt K H t.ms t.ss
  pls : H t.pl = some (.lst t.ps)
  prt : PartsAt CP H t.ps t.ss
  ok : okFrom 0 t.ss
  few : t.ss.length ≤ 30
section
variable {K : PySem.W.Frag} {CT CP : Addr} {H H' : Hp} {a : Addr} {t : TxI} {v : V} {s : Stp} {ms ps : List V} {ss : List Stp} {n y : Nat}
theorem StepAt.mono (e : Same H H') (h : StepAt K H v s) : StepAt K H' v s := let ⟨a, ev, q⟩ := h; ⟨a, ev, Same.tup e q⟩
theorem StepsAt.mono (e : Same H H') (h : StepsAt K H ms ss) : StepsAt K H' ms ss := ⟨h.1, fun j s q => let ⟨v, a, b⟩ := h.2 j s q; ⟨v, a, b.mono e⟩⟩
theorem PartAt.mono (e : Same H H') (h : PartAt CP H v n y s) : PartAt CP H' v n y s := by
  cases s with
  | wr w => obtain ⟨p, dx, ev, q⟩ := h; exact ⟨p, dx, ev, e _ _ q⟩
  | pa f l t => obtain ⟨p, dx, ev, q⟩ := h; exact ⟨p, dx, ev, e _ _ q⟩
theorem PartsAt.mono (e : Same H H') (h : PartsAt CP H ps ss) : PartsAt CP H' ps ss := ⟨h.1, fun j s q => let ⟨v, a, b⟩ := h.2 j s q; ⟨v, a, b.mono e⟩⟩
theorem TextAt.mono (h : TextAt K CT CP H a t) (e : Same H H') : TextAt K CT CP H' a t := ⟨e _ _ h.ins, Same.tup e h.made, h.stp.mono e, e _ _ h.pls, h.prt.mono e, h.ok, h.few⟩
theorem TextAt.insA (h : TextAt K CT CP H a t) : InsA H a CT := ⟨_, _, h.ins⟩
theorem TextAt.insM {m : Str} (h : TextAt K CT CP H a t) (hm : m ≠ "total" ∧ m ≠ "parts" ∧ m ≠ "typed" ∧ m ≠ "made" := by decide +kernel) : InsM H a CT m := ⟨_, _, h.ins, textF_no hm⟩
theorem stV_noseq (s : Stp) : ∀ v ∈ stV s, NoSeq v := by
  cases s <;> (intro v hv; simp only [stV, List.mem_cons, List.not_mem_nil, or_false] at hv; rcases hv with rfl | hv) <;> first | trivial | (rcases hv with rfl | hv <;> first | trivial | (rcases hv with rfl | rfl <;> trivial)) | (subst hv; trivial)
end
section
variable (K : PySem.W.Frag) (CT CP : Addr)
def sp_Part_init : Sp := fun vs H Q _ => ∃ x dx s n t f l, vs = [.ref x, .int s, .int n, .bl t, .int f, .int l] ∧ H x = some (.ins CP dx []) ∧ Q .non (upd H x (.ins CP dx (partF s n t f l)))
def sp_Part_source : Sp := fun vs H Q _ => ∃ p dx s n t f l z, vs = [.ref p, .int z] ∧ H p = some (.ins CP dx (partF s n t f l)) ∧ (t = false → f ≤ l) ∧ Q (.int (if t then f + z - s else f + (z - s) % (l - f + 1))) H
/-- Text(*steps) of valid steps: all that stood stands, x is the text -/
def sp_Text_init : Sp := fun vs H Q _ => ∃ x dx m rs ss, vs = [.ref x, .ref m] ∧ H x = some (.ins CT dx []) ∧ SqT K H m rs ∧ StepsAt K H rs ss ∧ okFrom 0 ss ∧ ss.length ≤ 30 ∧
  ∀ H' t, (∀ b o, b ≠ x → H b = some o → H' b = some o) → TextAt K CT CP H' x t → t.ss = ss → t.dx = dx → Q .non H'
end
end L2.Px
namespace L2.Px
open PySem PySem.Spec PyProof.Rows StX TL
section
variable {K : PySem.W.Frag} {H : Hp} {Q : VK} {T : String}
theorem rd_isi {x c : V} {t u : Value} {b : Bool} (k : ClsV c u) (ty : TyX K H x t) (e : PySem.W.kitOne K t u = some b) (q : Q (.bl b) H) : rIsi K [x, c] H Q := ⟨x, c, t, u, b, rfl, k, ty, e, q⟩
end
end L2.Px
namespace L2.Px
open PySem PySem.Spec PyProof.Rows StX TL
section
variable {K : PySem.W.Frag} {H : Hp} {Q : VK}
theorem rd_isi_int_int {i : Int} (q : Q (.bl true) H) : rIsi K [(.int i), .ty "int"] H Q := rd_isi (.ty _) (TyX.base (.int i)) (kit_ty (by decide +kernel)) q
theorem rd_isi_int_bool {i : Int} (q : Q (.bl false) H) : rIsi K [(.int i), .ty "bool"] H Q := rd_isi (.ty _) (TyX.base (.int i)) (kit_ty (by decide +kernel)) q
theorem rd_isi_int_str {i : Int} (q : Q (.bl false) H) : rIsi K [(.int i), .ty "str"] H Q := rd_isi (.ty _) (TyX.base (.int i)) (kit_ty (by decide +kernel)) q
theorem rd_isi_int_list {i : Int} (q : Q (.bl false) H) : rIsi K [(.int i), .ty "list"] H Q := rd_isi (.ty _) (TyX.base (.int i)) (kit_ty (by decide +kernel)) q
theorem rd_isi_int_tuple {i : Int} (q : Q (.bl false) H) : rIsi K [(.int i), .ty "tuple"] H Q := rd_isi (.ty _) (TyX.base (.int i)) (kit_ty (by decide +kernel)) q
theorem rd_isi_bl_int {c : Bool} (q : Q (.bl true) H) : rIsi K [(.bl c), .ty "int"] H Q := rd_isi (.ty _) (TyX.base (.bl c)) (kit_ty (by decide +kernel)) q
theorem rd_isi_bl_bool {c : Bool} (q : Q (.bl true) H) : rIsi K [(.bl c), .ty "bool"] H Q := rd_isi (.ty _) (TyX.base (.bl c)) (kit_ty (by decide +kernel)) q
theorem rd_isi_bl_str {c : Bool} (q : Q (.bl false) H) : rIsi K [(.bl c), .ty "str"] H Q := rd_isi (.ty _) (TyX.base (.bl c)) (kit_ty (by decide +kernel)) q
theorem rd_isi_bl_list {c : Bool} (q : Q (.bl false) H) : rIsi K [(.bl c), .ty "list"] H Q := rd_isi (.ty _) (TyX.base (.bl c)) (kit_ty (by decide +kernel)) q
theorem rd_isi_bl_tuple {c : Bool} (q : Q (.bl false) H) : rIsi K [(.bl c), .ty "tuple"] H Q := rd_isi (.ty _) (TyX.base (.bl c)) (kit_ty (by decide +kernel)) q
theorem rd_isi_str_int {x : Str} (q : Q (.bl false) H) : rIsi K [(.str x), .ty "int"] H Q := rd_isi (.ty _) (TyX.base (.str x)) (kit_ty (by decide +kernel)) q
theorem rd_isi_str_bool {x : Str} (q : Q (.bl false) H) : rIsi K [(.str x), .ty "bool"] H Q := rd_isi (.ty _) (TyX.base (.str x)) (kit_ty (by decide +kernel)) q
theorem rd_isi_str_str {x : Str} (q : Q (.bl true) H) : rIsi K [(.str x), .ty "str"] H Q := rd_isi (.ty _) (TyX.base (.str x)) (kit_ty (by decide +kernel)) q
theorem rd_isi_str_list {x : Str} (q : Q (.bl false) H) : rIsi K [(.str x), .ty "list"] H Q := rd_isi (.ty _) (TyX.base (.str x)) (kit_ty (by decide +kernel)) q
theorem rd_isi_str_tuple {x : Str} (q : Q (.bl false) H) : rIsi K [(.str x), .ty "tuple"] H Q := rd_isi (.ty _) (TyX.base (.str x)) (kit_ty (by decide +kernel)) q
theorem rd_isi_non_int  (q : Q (.bl false) H) : rIsi K [V.non, .ty "int"] H Q := rd_isi (.ty _) (TyX.base .non) (kit_ty (by decide +kernel)) q
theorem rd_isi_non_bool  (q : Q (.bl false) H) : rIsi K [V.non, .ty "bool"] H Q := rd_isi (.ty _) (TyX.base .non) (kit_ty (by decide +kernel)) q
theorem rd_isi_non_str  (q : Q (.bl false) H) : rIsi K [V.non, .ty "str"] H Q := rd_isi (.ty _) (TyX.base .non) (kit_ty (by decide +kernel)) q
theorem rd_isi_non_list  (q : Q (.bl false) H) : rIsi K [V.non, .ty "list"] H Q := rd_isi (.ty _) (TyX.base .non) (kit_ty (by decide +kernel)) q
theorem rd_isi_non_tuple  (q : Q (.bl false) H) : rIsi K [V.non, .ty "tuple"] H Q := rd_isi (.ty _) (TyX.base .non) (kit_ty (by decide +kernel)) q
theorem ty_lst {a : Addr} {xs : List V} (e : SqL K H a xs) : TyX K H (.ref a) (.type "list") := by
  rcases e with (q | ⟨o, q⟩) | ⟨o, _, _, q, c, _⟩
  · exact TyX.base (.lst q)
  · exact TyX.base (.frz q)
  · exact TyX.kList q c
theorem rd_isi_lst_list {a : Addr} {xs : List V} (e : SqL K H a xs) (q : Q (.bl true) H) : rIsi K [.ref a, .ty "list"] H Q := rd_isi (.ty _) (ty_lst e) (kit_ty (by decide +kernel)) q
theorem rd_isi_lst_tuple {a : Addr} {xs : List V} (e : SqL K H a xs) (q : Q (.bl false) H) : rIsi K [.ref a, .ty "tuple"] H Q := rd_isi (.ty _) (ty_lst e) (kit_ty (by decide +kernel)) q
theorem ty_tup {a : Addr} {xs : List V} (e : SqT K H a xs) : TyX K H (.ref a) (.type "tuple") := by
  rcases e with (q | ⟨o, q⟩) | ⟨o, _, _, q, c, _⟩
  · exact TyX.base (.tup q)
  · exact TyX.fTuple q
  · exact TyX.kTuple q c
theorem rd_isi_tup_list {a : Addr} {xs : List V} (e : SqT K H a xs) (q : Q (.bl false) H) : rIsi K [.ref a, .ty "list"] H Q := rd_isi (.ty _) (ty_tup e) (kit_ty (by decide +kernel)) q
theorem rd_isi_tup_tuple {a : Addr} {xs : List V} (e : SqT K H a xs) (q : Q (.bl true) H) : rIsi K [.ref a, .ty "tuple"] H Q := rd_isi (.ty _) (ty_tup e) (kit_ty (by decide +kernel)) q
end
end L2.Px
set_option Elab.async false
set_option linter.all false
set_option maxRecDepth 100000
set_option maxHeartbeats 1000000
namespace L2.Px
open PySem PySem.Spec PyProof.Rows StX TL
/-- all but what stands at x is as it was -/
def But (x : Addr) (H H' : Hp) : Prop := ∀ b o, b ≠ x → H b = some o → H' b = some o
section
variable {K : PySem.W.Frag} {CT CP : Addr} {H H' H1 : Hp} {a x : Addr} {t : TxI} {v : V} {s : Stp} {ms ps xs : List V} {ss : List Stp} {n y i : Nat} {o : HO}
theorem But.refl : But x H H := fun _ _ _ h => h
theorem But.trans (a : But x H H1) (b : But x H1 H') : But x H H' := fun c o hc h => b c o hc (a c o hc h)
theorem But.at (e : But x H H') : But x H (upd H' x o) := fun b u hb h => by rw [upd_ne hb]; exact e b u hb h
theorem But.new {p : Addr} (e : But x H H') (hp : H' p = none) : But x H (upd H' p o) := fun b u hb h => by rw [upd_ne (ne_of_none (e b u hb h) hp)]; exact e b u hb h
theorem But.same (e : Same H H') : But x H H' := fun b u _ h => e b u h
/-- an object that is no tuple and not locked -/
def Free1 (H : Hp) (x : Addr) : Prop := (∀ xs, H x ≠ some (.tup xs)) ∧ ∀ o u, H x ≠ some (.frz o u)
theorem free1_ins {C dx : Addr} {fs : List (Str × V)} (h : H x = some (.ins C dx fs)) : Free1 H x := ⟨fun xs e => (by rw [h] at e; cases e), fun o u e => (by rw [h] at e; cases e)⟩
theorem free1_lst (h : H x = some (.lst xs)) : Free1 H x := ⟨fun xs e => (by rw [h] at e; cases e), fun o u e => (by rw [h] at e; cases e)⟩
theorem But.tup (e : But x H H') (f : Free1 H x) (h : SqT K H a xs) : SqT K H' a xs := by
  rcases h with (h | ⟨o, h⟩) | h
  · exact .inl (.inl (e _ _ (fun z => f.1 xs (z ▸ h)) h))
  · exact .inl (.inr ⟨o, e _ _ (fun z => f.2 o _ (z ▸ h)) h⟩)
  · exact .inr h
theorem But.step (e : But x H H') (f : Free1 H x) (h : StepAt K H v s) : StepAt K H' v s := let ⟨a, ev, q⟩ := h; ⟨a, ev, e.tup f q⟩
theorem But.steps (e : But x H H') (f : Free1 H x) (h : StepsAt K H ms ss) : StepsAt K H' ms ss := ⟨h.1, fun j s q => let ⟨v, a, b⟩ := h.2 j s q; ⟨v, a, e.step f b⟩⟩
theorem But.part (e : But x H H') (f : ∀ dx fs, H x ≠ some (.ins CP dx fs)) (h : PartAt CP H v n y s) : PartAt CP H' v n y s := by
  cases s with
  | wr w => obtain ⟨p, dx, ev, q⟩ := h; exact ⟨p, dx, ev, e _ _ (fun z => f _ _ (z ▸ q)) q⟩
  | pa f' l t => obtain ⟨p, dx, ev, q⟩ := h; exact ⟨p, dx, ev, e _ _ (fun z => f _ _ (z ▸ q)) q⟩
theorem PartsAt.but (e : But x H H') (f : ∀ dx fs, H x ≠ some (.ins CP dx fs)) (h : PartsAt CP H ps ss) : PartsAt CP H' ps ss := ⟨h.1, fun j s q => let ⟨v, a, b⟩ := h.2 j s q; ⟨v, a, But.part e f b⟩⟩
theorem take_take_le {α : Type} {l : List α} {i j : Nat} (h : j ≤ i) : (l.take i).take j = l.take j := by rw [List.take_take, Nat.min_eq_left h]
theorem PartsAt.snoc (h : PartsAt CP H ps (ss.take i)) (hs : ss[i]? = some s) (e : But x H H') (f : ∀ dx fs, H x ≠ some (.ins CP dx fs)) (hp : PartAt CP H' v (sz (ss.take i)) (tyL (ss.take i)).length s) : PartsAt CP H' (ps ++ [v]) (ss.take (i + 1)) := by
  have hi : i < ss.length := (List.getElem?_eq_some_iff.mp hs).1
  have hl : ps.length = i := by rw [h.1, List.length_take]; omega
  refine ⟨by rw [List.length_append, hl, List.length_take]; simp; omega, fun j s' hj => ?_⟩
  have hj' : j < i + 1 := by
    have := (List.getElem?_eq_some_iff.mp hj).1
    rw [List.length_take] at this; omega
  rw [take_take_le (by omega)]
  rw [List.getElem?_take, if_pos hj'] at hj
  by_cases hji : j < i
  · obtain ⟨v', e1, e2⟩ := h.2 j s' (by rw [List.getElem?_take, if_pos hji]; exact hj)
    rw [take_take_le (by omega)] at e2
    exact ⟨v', by rw [List.getElem?_append_left (by omega)]; exact e1, But.part e f e2⟩
  · have ej : j = i := by omega
    subst ej
    rw [hs] at hj; cases hj
    exact ⟨v, by rw [List.getElem?_append_right (by omega), hl]; simp, hp⟩
theorem StepsAt.at (h : StepsAt K H ms ss) {j : Nat} (hv : ms[j]? = some v) : ∃ s, ss[j]? = some s ∧ StepAt K H v s := by
  have hj : j < ss.length := by rw [← h.1]; exact (List.getElem?_eq_some_iff.mp hv).1
  obtain ⟨v', e1, e2⟩ := h.2 j _ (List.getElem?_eq_getElem hj)
  rw [hv] at e1; cases e1
  exact ⟨_, List.getElem?_eq_getElem hj, e2⟩
theorem str_small {w : Str} (h : w.length ≤ 20) : w.length ≤ sizeLine := Nat.le_trans h (by rw [sizeLine_eq]; decide)
def mv (n : Nat) : Stp → Stp
  | .wr w => .wr w
  | .pa f l t => .pa (f + n) (l + n) t
def joinS (a b : List Stp) : List Stp := a ++ b.map (mv (sz a))
def rt (k c : Nat) : Nat → List Stp → List Stp
  | _, [] => []
  | n, .wr w :: r => (if n ≤ k ∧ k < n + w.length then .wr (mkS ((tl w).set (k - n) c)) else .wr w) :: rt k c (n + w.length) r
  | n, .pa f l t :: r => .pa f l t :: rt k c n r
end
section
variable (K : PySem.W.Frag) (CT CP : Addr)
def sp_is_step : Sp := fun vs H Q _ => ∃ v, ∃ (n : Nat), ∃ s, vs = [v, .int n] ∧ StepAt K H v s ∧ okStep n s ∧ ∀ H', Same H H' → Q (.bl true) H'
def sp_Text_of_steps : Sp := fun vs H Q _ => ∃ a ms ss, vs = [.ref CT, .ref a] ∧ (SqT K H a ms ∨ SqL K H a ms) ∧ StepsAt K H ms ss ∧ okFrom 0 ss ∧ ss.length ≤ 30 ∧ ∀ H' x t, Same H H' → TextAt K CT CP H' x t → t.ss = ss → Q (.ref x) H'
def sp_Text_steps : Sp := fun vs H Q _ => ∃ a t, vs = [.ref a] ∧ TextAt K CT CP H a t ∧ Q (.ref t.m) H
def sp_Text_typed_keys : Sp := fun vs H Q _ => ∃ a t, vs = [.ref a] ∧ TextAt K CT CP H a t ∧ Q (.str (mkS (tyL t.ss))) H
def sp_Text_size : Sp := fun vs H Q _ => ∃ a t, vs = [.ref a] ∧ TextAt K CT CP H a t ∧ Q (.int (sz t.ss)) H
def sp_Text_check_place : Sp := fun vs H Q _ => ∃ a t v, vs = [.ref a, v] ∧ TextAt K CT CP H a t ∧ NoSeq v ∧ isInt 0 ((sz t.ss : Int) - 1) v = true ∧ Q .non H
def sp_Text_check_key : Sp := fun vs H Q _ => ∃ a t v, vs = [.ref a, v] ∧ TextAt K CT CP H a t ∧ NoSeq v ∧ isInt 0 (((tyL t.ss).length : Int) - 1) v = true ∧ Q .non H
def sp_Text_key_of : Sp := fun vs H Q _ => ∃ a t, ∃ (p k : Nat), vs = [.ref a, .int p] ∧ TextAt K CT CP H a t ∧ (ks t.ss)[p]? = some k ∧ Q (.int k) H
def sp_Text_call : Sp := sp_Text_key_of K CT CP
def sp_Text_getitem : Sp := fun vs H Q _ => ∃ a t, ∃ (p k c : Nat), vs = [.ref a, .int p] ∧ TextAt K CT CP H a t ∧ (ks t.ss)[p]? = some k ∧ (tyL t.ss)[k]? = some c ∧ Q (.str ⟨#[c]⟩) H
def sp_Text_add : Sp := fun vs H Q _ => ∃ a b t u, vs = [.ref a, .ref b] ∧ TextAt K CT CP H a t ∧ TextAt K CT CP H b u ∧ okFrom 0 (joinS t.ss u.ss) ∧ (joinS t.ss u.ss).length ≤ 30 ∧ ∀ H' x z, Same H H' → TextAt K CT CP H' x z → z.ss = joinS t.ss u.ss → Q (.ref x) H'
def mulS (ss : List Stp) (n : Nat) : List Stp := if n = 1 ∨ sz ss = 0 then ss else ss ++ [.pa 0 (sz ss - 1) (n - 1)]
def sp_Text_mul : Sp := fun vs H Q _ => ∃ a t, ∃ (n : Nat), vs = [.ref a, .int n] ∧ TextAt K CT CP H a t ∧ 1 ≤ n ∧ n ≤ 1000000000 ∧ okFrom 0 (mulS t.ss n) ∧ (mulS t.ss n).length ≤ 30 ∧ ∀ H' x z, Same H H' → TextAt K CT CP H' x z → z.ss = mulS t.ss n → Q (.ref x) H'
def sp_Text_retyped : Sp := fun vs H Q _ => ∃ a t, ∃ (k c : Nat), vs = [.ref a, .int k, .str ⟨#[c]⟩] ∧ TextAt K CT CP H a t ∧ k < (tyL t.ss).length ∧ 97 ≤ c ∧ c ≤ 122 ∧ ∀ H' x z, Same H H' → TextAt K CT CP H' x z → z.ss = rt k c 0 t.ss → Q (.ref x) H'
end
end L2.Px
namespace L2.Px
open PySem PySem.Spec PyProof.Rows StX TL
section
variable {K : PySem.W.Frag} {H : Hp} {Q : VK} {x : Str} {a : Addr} {xs : List V}
def rLenA (K : PySem.W.Frag) : List V → Hp → VK → Prop := fun xs H Q => ∃ x n, xs = [x] ∧ LenV K x H n ∧ Q (.int n) H
theorem cLen {X : Cx} : CallR X (.builtin "len") (rLenA X.K) := call_len
theorem rd_len_str (hz : x.length ≤ sizeLine) (q : Q (.int (x.length : Nat)) H) : rLenA K [.str x] H Q := ⟨_, _, rfl, ⟨hz, rfl⟩, q⟩
theorem rd_len_lst (h : SqL K H a xs) (q : Q (.int (xs.length : Nat)) H) : rLenA K [.ref a] H Q := ⟨_, _, rfl, .inl ⟨_, h, rfl⟩, q⟩
theorem rd_len_tup (h : SqT K H a xs) (q : Q (.int (xs.length : Nat)) H) : rLenA K [.ref a] H Q := ⟨_, _, rfl, .inr ⟨_, h, rfl⟩, q⟩
def rIntA : List V → Hp → VK → Prop := fun xs H Q => (∃ i, xs = [.int i] ∧ Q (.int i) H) ∨ ∃ k, xs = [.bl k] ∧ Q (.int (if k then 1 else 0)) H
theorem cInt {X : Cx} : CallR X (.type "int") rIntA := call_int1
theorem rd_int_int {i : Int} (q : Q (.int i) H) : rIntA [.int i] H Q := .inl ⟨i, rfl, q⟩
theorem rd_int_bl {c : Bool} (q : Q (.int (if c then 1 else 0)) H) : rIntA [.bl c] H Q := .inr ⟨c, rfl, q⟩
def rListA (K : PySem.W.Frag) : List V → Hp → VK → Prop := fun xs H Q => ∃ p ys, xs = [.ref p] ∧ (SqL K H p ys ∨ SqT K H p ys) ∧ ∀ l, H l = none → Q (.ref l) (upd H l (.lst ys))
theorem cList {X : Cx} : CallR X (.type "list") (rListA X.K) := call_list_of
theorem rd_list_lst (h : SqL K H a xs) (q : ∀ l, H l = none → Q (.ref l) (upd H l (.lst xs))) : rListA K [.ref a] H Q := ⟨a, xs, rfl, .inl h, q⟩
theorem rd_list_tup (h : SqT K H a xs) (q : ∀ l, H l = none → Q (.ref l) (upd H l (.lst xs))) : rListA K [.ref a] H Q := ⟨a, xs, rfl, .inr h, q⟩
def rTupA (K : PySem.W.Frag) : List V → Hp → VK → Prop := fun xs H Q => ∃ p ys, xs = [.ref p] ∧ ((SqL K H p ys ∧ ∀ l, H l = none → Q (.ref l) (upd H l (.tup ys))) ∨ (SqT K H p ys ∧ Q (.ref p) H))
theorem cTup {X : Cx} : CallR X (.type "tuple") (rTupA X.K) := call_tuple_of
theorem rd_tuple_lst (h : SqL K H a xs) (q : ∀ l, H l = none → Q (.ref l) (upd H l (.tup xs))) : rTupA K [.ref a] H Q := ⟨a, xs, rfl, .inl ⟨h, q⟩⟩
def rMin2 : List V → Hp → VK → Prop := fun xs H Q => ∃ i j, xs = [.int i, .int j] ∧ Q (.int (if j < i then j else i)) H
theorem cMin2 {X : Cx} (hc : X.calm = true) : CallR X (.builtin "min") rMin2 := call_min2 hc
theorem rd_min2 {i j : Int} (q : Q (.int (if j < i then j else i)) H) : rMin2 [.int i, .int j] H Q := ⟨i, j, rfl, q⟩
def rMax2 : List V → Hp → VK → Prop := fun xs H Q => ∃ i j, xs = [.int i, .int j] ∧ Q (.int (if j > i then j else i)) H
theorem rd_max2 {i j : Int} (q : Q (.int (if j > i then j else i)) H) : rMax2 [.int i, .int j] H Q := ⟨i, j, rfl, q⟩
def rInSign : R2 := fun x y H Q => ∃ (c : Nat) (z : Str), x = .str ⟨#[c]⟩ ∧ y = .str z ∧ Q (.bl (decide (c ∈ z.cps.toList))) H
theorem oInSign {X : Cx} : OpR X (compareOp .In) rInSign := op_in_sign
theorem rd_in_sign {c : Nat} {z : Str} (q : Q (.bl (decide (c ∈ z.cps.toList))) H) : rInSign (.str ⟨#[c]⟩) (.str z) H Q := ⟨c, z, rfl, rfl, q⟩
def rIsN : R2 := fun x y H Q => y = .non ∧ Q (.bl (decide (x = .non))) H
def rNotN : R2 := fun x y H Q => y = .non ∧ Q (.bl (!decide (x = .non))) H
theorem oIsN {X : Cx} : OpR X (compareOp .Is) rIsN := op_isN
theorem rd_isN {v : V} (q : Q (.bl (decide (v = .non))) H) : rIsN v .non H Q := ⟨rfl, q⟩
theorem rd_notN {v : V} (q : Q (.bl (!decide (v = .non))) H) : rNotN v .non H Q := ⟨rfl, q⟩
theorem one_sign (h : x.length = 1) : ∃ c, x = ⟨#[c]⟩ := by
  have e : (tl x).length = 1 := by rw [← len_tl]; exact h
  obtain ⟨c, hc⟩ := List.length_eq_one_iff.mp e
  exact ⟨c, ext_tl (by rw [hc, tl_mk])⟩
theorem isLet_len (h : ¬ x.length = 1) : isLet (.str x) = false := by
  unfold isLet
  simp only
  split
  · rename_i c e
    exact absurd (by rw [len_tl, e]; rfl) h
  · rfl
theorem low_list : (("abcdefghijklmnopqrstuvwxyz" : Str)).cps.toList = [97, 98, 99, 100, 101, 102, 103, 104, 105, 106, 107, 108, 109, 110, 111, 112, 113, 114, 115, 116, 117, 118, 119, 120, 121, 122] := by decide +kernel
theorem low_mem (c : Nat) : decide (c ∈ (("abcdefghijklmnopqrstuvwxyz" : Str)).cps.toList) = decide (97 ≤ c ∧ c ≤ 122) := by
  rw [low_list]
  apply decide_eq_decide.mpr
  simp only [List.mem_cons, List.not_mem_nil, or_false]
  omega
theorem isLet_one (c : Nat) : isLet (.str ⟨#[c]⟩) = decide (c ∈ (("abcdefghijklmnopqrstuvwxyz" : Str)).cps.toList) := by rw [low_mem]; rfl
theorem isWd_len (h : ¬ (1 ≤ (tl x).length ∧ (tl x).length ≤ 20)) : isWd (.str x) = false := by
  unfold isWd
  exact decide_eq_false fun z => h ⟨z.1, z.2.1⟩
end
section
variable {a b c d e : Str} {va vb vc vd ve : V}
theorem fl1 : (putF a va []).length < 1000 := Nat.lt_of_le_of_lt (putF_len (k := 0) (Nat.le_refl 0)) (by decide)
theorem fl2 : (putF b vb (putF a va [])).length < 1000 := Nat.lt_of_le_of_lt (putF_len (k := 1) (putF_len (k := 0) (Nat.le_refl 0))) (by decide)
theorem fl3 : (putF c vc (putF b vb (putF a va []))).length < 1000 := Nat.lt_of_le_of_lt (putF_len (k := 2) (putF_len (k := 1) (putF_len (k := 0) (Nat.le_refl 0)))) (by decide)
theorem fl4 : (putF d vd (putF c vc (putF b vb (putF a va [])))).length < 1000 := Nat.lt_of_le_of_lt (putF_len (k := 3) (putF_len (k := 2) (putF_len (k := 1) (putF_len (k := 0) (Nat.le_refl 0))))) (by decide)
theorem fl5 : (putF e ve (putF d vd (putF c vc (putF b vb (putF a va []))))).length < 1000 := Nat.lt_of_le_of_lt (putF_len (k := 4) (putF_len (k := 3) (putF_len (k := 2) (putF_len (k := 1) (putF_len (k := 0) (Nat.le_refl 0)))))) (by decide)
end
end L2.Px
set_option Elab.async false
set_option linter.all false
set_option maxRecDepth 100000
set_option maxHeartbeats 1000000
namespace L2.Px
open PySem PySem.Spec PyProof.Rows StX TL
/-- what tLc asks behind the walked thing J -/
def LcW (J : It) (g : TG) (tt : TT) (te : TE) (vs : List Nat) (σ : St) (H1 : Hp) (D : Addr) (Qd : Hp → Prop) : Prop := ∃ W : Nat → Nat → Hp → Prop, (∃ m, W 0 m (upd H1 D (.lst []))) ∧ ∀ i m H, W i m H →
  (J.stop i H ∧ Qd H) ∨ (J.go i H ∧ ∃ Nx : Hp → Prop, (∀ H', Nx H' → ∃ m', m' < m ∧ W (i + 1) m' H') ∧ ∀ x H', J.yld i H x H' → g x (wipe σ vs) H' fun σ2 H2 => wipe σ2 vs = wipe σ vs ∧ tt σ2 H2 fun b H3 =>
    if b = true then te σ2 H3 fun y H4 => ∃ acc, H4 D = some (.lst acc) ∧ acc.length < sizeLine ∧ Nx (upd H4 D (.lst (acc ++ [y]))) else Nx H3)
/-- a walk of n turns whose i-th item is it i, the heap as it is -/
structure Plain (J : It) (n : Nat) (it : Nat → V) (H1 : Hp) : Prop where
  stop : ∀ H, Same H1 H → J.stop n H
  go : ∀ i H, Same H1 H → i < n → J.go i H
  yld : ∀ i H x H', Same H1 H → i < n → J.yld i H x H' → H' = H ∧ x = it i
section
variable {K : PySem.W.Frag} {a : Addr} {xs : List V} {H1 : Hp} {n : Nat} {lo : Int} {x : Str}
theorem plain_list (h : SqL K H1 a xs) : Plain (Itl K a) xs.length (fun i => (xs[i]?).getD .non) H1 where
  stop := fun H s => ⟨xs, s.seq h, Nat.le_refl _⟩
  go := fun i H s hi => ⟨xs, xs[i], s.seq h, by simp [hi]⟩
  yld := fun i H x H' s hi y => ⟨y.1, by rw [y.2 xs (s.seq h)]; rfl⟩
theorem plain_tup (h : SqT K H1 a xs) : Plain (Itt K a) xs.length (fun i => (xs[i]?).getD .non) H1 where
  stop := fun H s => ⟨xs, Same.tup s h, Nat.le_refl _⟩
  go := fun i H s hi => ⟨xs, xs[i], Same.tup s h, by simp [hi]⟩
  yld := fun i H x H' s hi y => ⟨y.1, by rw [y.2 xs (Same.tup s h)]; rfl⟩
theorem plain_str : Plain (Its x) (tl x).length (fun i => .str ⟨#[(tl x)[i]?.getD 0]⟩) H1 where
  stop := fun H s => by show x.cps.size ≤ _; rw [← len_tl]; exact Nat.le_refl _
  go := fun i H s hi => by show i < x.cps.size; rw [← len_tl] at hi; exact hi
  yld := fun i H y H' s hi h => by
    obtain ⟨e, c, hc, ev⟩ := h
    have e2 : (tl x)[i]? = some c := by show x.cps.toList[i]? = some c; rw [Array.getElem?_toList]; exact hc
    exact ⟨e, by rw [ev, e2]; rfl⟩
theorem plain_rng : Plain (Itr lo n) n (fun i => .int (lo + i)) H1 where
  stop := fun H s => Nat.le_refl _
  go := fun i H s hi => hi
  yld := fun i H x H' s hi y => ⟨y.1, y.2⟩
end
section
variable {J : It} {n : Nat} {it : Nat → V} {H1 : Hp} {tt : TT} {te : TE} {vs : List Nat} {σ : St} {D : Addr} {Qd : Hp → Prop} {j : Nat}
/-- [f x for x in .. if p x], related answers -/
theorem lc_rel (P : Plain J n it H1) (hD : H1 D = none) (hn : n ≤ sizeLine) (hj : ∀ v, wipe ((wipe σ vs).set j (some v)) vs = wipe σ vs) (Rl : Nat → V → Hp → Prop) (mono : ∀ i y H H' l, i < n → H D = some (.lst l) → But D H H' → Rl i y H → Rl i y H')
    (hs : ∀ i H (Q : VK), i < n → Same H1 H → (∀ y H', Same H H' → Rl i y H' → Q y H') → te ((wipe σ vs).set j (some (it i))) H Q)
    (hd : ∀ H ys, Same H1 H → H D = some (.lst ys) → ys.length = n → (∀ i, i < n → ∃ y, ys[i]? = some y ∧ Rl i y H) → Qd H) : LcW J (gName j) tYes te vs σ H1 D Qd := by
  refine ⟨fun i m H => m = n - i ∧ i ≤ n ∧ Same H1 H ∧ ∃ ys, H D = some (.lst ys) ∧ ys.length = i ∧ ∀ k, k < i → ∃ y, ys[k]? = some y ∧ Rl k y H, ⟨_, rfl, Nat.zero_le _, Same.new (Same.refl _) hD, [], upd_same, rfl, fun k hk => absurd hk (Nat.not_lt_zero _)⟩, ?_⟩
  rintro i m H ⟨rfl, hi, S, ys, eD, hl, hr⟩
  by_cases hlt : i < n
  · refine .inr ⟨P.go i H S hlt, fun H' => i + 1 ≤ n ∧ Same H1 H' ∧ ∃ ys, H' D = some (.lst ys) ∧ ys.length = i + 1 ∧ ∀ k, k < i + 1 → ∃ y, ys[k]? = some y ∧ Rl k y H', fun H' z => ⟨n - (i + 1), by omega, rfl, z⟩, fun x H' y => ?_⟩
    obtain ⟨e1, e2⟩ := P.yld i H x H' S hlt y
    subst e1 e2
    refine ⟨hj _, ?_⟩
    refine rd_yes (iteT ?_)
    refine hs i H' _ hlt S fun y2 H2 S2 r => ⟨ys, S2 _ _ eD, by omega, hlt, Same.mut (S.trans S2) hD, ys ++ [y2], upd_same, by simp [hl], fun k hk => ?_⟩
    by_cases hki : k < i
    · obtain ⟨y', h1, h2⟩ := hr k hki
      exact ⟨y', by rw [List.getElem?_append_left (by omega)]; exact h1, mono _ _ _ _ _ (by omega) eD (But.at (But.same S2)) h2⟩
    · have ek : k = i := by omega
      subst ek
      exact ⟨y2, by rw [List.getElem?_append_right (by omega), hl]; simp, mono _ _ _ _ _ (by omega) (S2 _ _ eD) (But.at But.refl) r⟩
  · have e : i = n := by omega
    subst e
    exact .inl ⟨P.stop H S, hd H ys S eD hl hr⟩
/-- the same with plain answers -/
theorem lc_fun (P : Plain J n it H1) (hD : H1 D = none) (hn : n ≤ sizeLine) (hj : ∀ v, wipe ((wipe σ vs).set j (some v)) vs = wipe σ vs) (f : Nat → V)
    (hs : ∀ i H (Q : VK), i < n → Same H1 H → (∀ H', Same H H' → Q (f i) H') → te ((wipe σ vs).set j (some (it i))) H Q)
    (hd : ∀ H, Same H1 H → H D = some (.lst ((List.range n).map f)) → Qd H) : LcW J (gName j) tYes te vs σ H1 D Qd := by
  refine ⟨fun i m H => m = n - i ∧ i ≤ n ∧ Same H1 H ∧ H D = some (.lst ((List.range i).map f)), ⟨_, rfl, Nat.zero_le _, Same.new (Same.refl _) hD, upd_same⟩, ?_⟩
  rintro i m H ⟨rfl, hi, S, eD⟩
  by_cases hlt : i < n
  · refine .inr ⟨P.go i H S hlt, fun H' => i + 1 ≤ n ∧ Same H1 H' ∧ H' D = some (.lst ((List.range (i + 1)).map f)), fun H' z => ⟨n - (i + 1), by omega, rfl, z⟩, fun x H' y => ?_⟩
    obtain ⟨e1, e2⟩ := P.yld i H x H' S hlt y
    subst e1 e2
    refine ⟨hj _, ?_⟩
    refine rd_yes (iteT ?_)
    refine hs i H' _ hlt S fun H2 S2 => ⟨_, S2 _ _ eD, by rw [List.length_map, List.length_range]; omega, hlt, Same.mut (S.trans S2) hD, ?_⟩
    rw [upd_same, List.range_succ, List.map_append]
    rfl
  · have e : i = n := by omega
    subst e
    exact .inl ⟨P.stop H S, hd H S eD⟩
/-- with a test -/
theorem lc_filt (P : Plain J n it H1) (hD : H1 D = none) (hn : n ≤ sizeLine) (hj : ∀ v, wipe ((wipe σ vs).set j (some v)) vs = wipe σ vs) (f : Nat → V) (p : Nat → Bool)
    (ht : ∀ i H (R : Bool → Hp → Prop), i < n → Same H1 H → (∀ H', Same H H' → R (p i) H') → tt ((wipe σ vs).set j (some (it i))) H R)
    (hs : ∀ i H (Q : VK), i < n → p i = true → Same H1 H → (∀ H', Same H H' → Q (f i) H') → te ((wipe σ vs).set j (some (it i))) H Q)
    (hd : ∀ H, Same H1 H → H D = some (.lst (((List.range n).filter p).map f)) → Qd H) : LcW J (gName j) tt te vs σ H1 D Qd := by
  refine ⟨fun i m H => m = n - i ∧ i ≤ n ∧ Same H1 H ∧ H D = some (.lst (((List.range i).filter p).map f)), ⟨_, rfl, Nat.zero_le _, Same.new (Same.refl _) hD, upd_same⟩, ?_⟩
  rintro i m H ⟨rfl, hi, S, eD⟩
  by_cases hlt : i < n
  · refine .inr ⟨P.go i H S hlt, fun H' => i + 1 ≤ n ∧ Same H1 H' ∧ H' D = some (.lst (((List.range (i + 1)).filter p).map f)), fun H' z => ⟨n - (i + 1), by omega, rfl, z⟩, fun x H' y => ?_⟩
    obtain ⟨e1, e2⟩ := P.yld i H x H' S hlt y
    subst e1 e2
    refine ⟨hj _, ht i H' _ hlt S fun H2 S2 => ?_⟩
    cases hp : p i with
    | true =>
      rw [if_pos rfl]
      refine hs i H2 _ hlt hp (S.trans S2) fun H3 S3 => ⟨_, S3 _ _ (S2 _ _ eD), ?_, hlt, Same.mut ((S.trans S2).trans S3) hD, ?_⟩
      · rw [List.length_map]
        have := List.length_filter_le p (List.range i)
        rw [List.length_range] at this
        omega
      · rw [upd_same, List.range_succ, List.filter_append, List.map_append]
        simp [hp]
    | false =>
      rw [if_neg Bool.false_ne_true]
      refine ⟨hlt, S.trans S2, ?_⟩
      rw [S2 _ _ eD, List.range_succ, List.filter_append, List.map_append]
      simp [hp]
  · have e : i = n := by omega
    subst e
    exact .inl ⟨P.stop H S, hd H S eD⟩
end
def ForW (J : It) (g : TG) (tb : TS) (D : Ends) (σ : St) (H1 : Hp) : Prop := ∃ W : Nat → Nat → St → Hp → Prop, (∃ m, W 0 m σ H1) ∧ ∀ i m σ H, W i m σ H →
  (J.stop i H ∧ D.nx σ H) ∨ (J.go i H ∧ ∃ N : St → Hp → Prop, (∀ σ' H', N σ' H' → ∃ m', m' < m ∧ W (i + 1) m' σ' H') ∧ ∀ x H', J.yld i H x H' → g x σ H' fun σ2 H2 => tb { D with nx := N, ct := N, bk := D.nx } σ2 H2)
section
variable {K : PySem.W.Frag} {H : Hp} {Q : VK} {x : Str} {a : Addr} {xs : List V}
theorem rd_all {bs : List Bool} (h : SqL K H a (bs.map V.bl)) (q : Q (.bl (bs.all id)) H) : rAll K [.ref a] H Q := ⟨a, bs, rfl, h, q⟩
theorem isWd_all (h1 : 1 ≤ (tl x).length) (h2 : (tl x).length ≤ 20) : ((List.range (tl x).length).map fun i => isLet (.str ⟨#[(tl x)[i]?.getD 0]⟩)).all id = isWd (.str x) := by
  unfold isWd
  rw [List.all_map]
  have key : (List.range (tl x).length).all (id ∘ fun i => isLet (.str ⟨#[(tl x)[i]?.getD 0]⟩)) = decide (∀ c ∈ tl x, 97 ≤ c ∧ c ≤ 122) := by
    rw [Bool.eq_iff_iff, List.all_eq_true, decide_eq_true_iff]
    constructor
    · intro h c hc
      obtain ⟨i, hi, rfl⟩ := List.getElem_of_mem hc
      have := h i (List.mem_range.mpr hi)
      simp only [Function.comp, id, isLet, tl] at this
      rw [List.getElem?_eq_getElem hi] at this
      simpa [tl] using this
    · intro h i hi
      have hi := List.mem_range.mp hi
      have := h _ (List.getElem_mem hi)
      simp only [Function.comp, id, isLet]
      rw [List.getElem?_eq_getElem hi]
      simpa [tl] using this
  rw [key]
  apply decide_eq_decide.mpr
  constructor
  · intro h; exact ⟨h1, h2, h⟩
  · intro h; exact h.2.2
theorem sign_small (c : Nat) : (⟨#[c]⟩ : Str).length ≤ sizeLine := Nat.le_trans (show 1 ≤ 20 by decide) (by rw [sizeLine_eq]; decide)
theorem rd_iStr {te : TE} {σ : St} {Rr : It → Hp → Prop} (h : te σ H fun v H1 => ∃ x, v = .str x ∧ Rr (Its x) H1) : iStr te σ H Rr := h
end
end L2.Px
namespace L2.Px
open PySem PySem.Spec PyProof.Rows StX TL
section
variable {K : PySem.W.Frag} {H : Hp} {Q : VK} {x y : Str} {a l : Addr} {xs : List V} {v : V} {i : Int} {CP CT : Addr} {ss : List Stp} {s : Stp} {n j : Nat}
theorem two_line : 2 ≤ sizeLine := by rw [sizeLine_eq]; decide
theorem emp_mk : ("" : Str) = mkS [] := by decide +kernel
theorem rd_append (h : H l = some (.lst xs)) (hz : xs.length < sizeLine) (q : Q .non (upd H l (.lst (xs ++ [v])))) : rAppend (.ref l) [v] H Q := ⟨l, xs, v, rfl, rfl, h, hz, q⟩
theorem rd_U {g : Int → V} (q : Q (g i) H) : rU g (.int i) H Q := ⟨i, rfl, q⟩
theorem rd_tyL (h : SqL K H a xs) (q : Prop) (hq : q) : tyV K "list" (.ref a) H ∧ q := ⟨.inl ⟨rfl, _, h⟩, hq⟩
theorem line30 : (30 : Nat) < sizeLine := by rw [sizeLine_eq]; decide
theorem tyL_small {ss : List Stp} (ok : okFrom n ss) : (tyL ss).length ≤ 20 * ss.length := by
  induction ss generalizing n with
  | nil => simp [tyL]
  | cons s r ih =>
    obtain ⟨h1, _, h3⟩ := ok
    have := ih h3
    simp only [tyL, List.length_append, List.length_cons]
    cases s with
    | wr w => have := h1.2.1; rw [len_tl] at this; simp only [ty1]; omega
    | pa f l t => simp only [ty1, List.length_nil]; omega
theorem tyL_line (ok : okFrom n ss) (few : ss.length ≤ 30) : (tyL ss).length ≤ sizeLine := Nat.le_trans (tyL_small ok) (Nat.le_trans (show 20 * ss.length ≤ 600 by omega) (by rw [sizeLine_eq]; decide))
theorem tyL_take_le (j : Nat) : (tyL (ss.take j)).length ≤ (tyL ss).length := by
  conv => rhs; rw [← List.take_append_drop j ss, tyL_append, List.length_append]
  omega
end
end L2.Px
namespace L2.Px
open PySem PySem.Spec PyProof.Rows StX TL
section
variable {K : PySem.W.Frag} {H : Hp} {Q : VK} {E : XK} {CP CT : Addr} {a b : Addr} {xs : List V} {s n f l : Int} {t : Bool} {rs : List V} {ss : List Stp}
/-- a part is made -/
theorem rd_mkPart (q : ∀ x dx Hc, H x = none → Same H Hc → Hc x = some (.ins CP dx (partF s n t f l)) → Q (.ref x) Hc) :
    rMk CP (sp_Part_init CP) E [.int s, .int n, .bl t, .int f, .int l] H Q := by
  intro x dx nx nd ne
  exact ⟨x, dx, s, n, t, f, l, rfl, upd_same, rfl, q x dx _ nx (Same.mut (Same.mut (Same.mut (Same.refl _) nd) nx) nx) upd_same⟩
/-- a text is made -/
theorem rd_mkText (hst : StepsAt K H rs ss) (ok : okFrom 0 ss) (few : ss.length ≤ 30)
    (q : ∀ x Hc t, H x = none → Same H Hc → TextAt K CT CP Hc x t → t.ss = ss → Q (.ref x) Hc) :
    rMk CT (spStar 1 (sp_Text_init K CT CP)) E rs H Q := by
  intro x dx nx nd ne
  have S1 : Same H (upd (upd H dx (.own x)) x (.ins CT dx [])) := Same.mut (Same.mut (Same.refl _) nd) nx
  refine ⟨[.ref x], rs, rfl, rfl, by rw [hst.1]; exact Nat.le_trans few (Nat.le_of_lt line30), fun p np => ?_⟩
  have S2 := Same.new (o := .tup rs) S1 np
  exact ⟨x, dx, p, rs, ss, rfl, lk_new np upd_same, SqT.of upd_same, hst.mono S2, ok, few, fun H' t k T e1 e2 => ⟨rfl, q x H' t nx (fun b o e => k b o (ne_of_none e nx) (S2 _ _ e)) T e1⟩⟩
end
end L2.Px
set_option Elab.async false
set_option linter.all false
set_option maxRecDepth 100000
set_option maxHeartbeats 1000000
namespace L2.Px
open PySem PySem.Spec PyProof.Rows StX TL
section
variable {K : PySem.W.Frag} {σ : St} {H : Hp} {Q : VK} {i j : Int} {x y : Str} {a b : Addr} {xs ys : List V} {te ta tb : TE} {tt : TT} {st : TS} {D : Ends} {t1 t2 : TO} {c : Nat} {v : V}
theorem rd_while (W : Nat → St → Hp → Prop) (h0 : ∃ m, W m σ H) (hs : ∀ m σ H, W m σ H → tt σ H fun b H1 => if b = true then ∃ N : St → Hp → Prop, (∀ σ' H', N σ' H' → ∃ m', m' < m ∧ W m' σ' H') ∧ st { D with nx := N, ct := N, bk := D.nx } σ H1 else D.nx σ H1) : tWhile tt st D σ H := ⟨W, h0, hs⟩
theorem rd_ixS (hz : x.length ≤ sizeLine) (e : atI x.cps.toList i = some c) (h : Q (.str ⟨#[c]⟩) H) : rIx K (.str x) (.int i) H Q := .inr (.inr ⟨x, i, c, rfl, rfl, hz, e, h⟩)
theorem rd_ixSn {j : Nat} (hz : x.length ≤ sizeLine) (e : (tl x)[j]? = some c) (h : Q (.str ⟨#[c]⟩) H) : rIx K (.str x) (.int j) H Q := rd_ixS hz (by rw [atI_nat]; exact e) h
theorem rd_ixLn {j : Nat} (hx : SqL K H a xs) (e : xs[j]? = some v) (h : Q v H) : rIx K (.ref a) (.int j) H Q := rd_ixI h hx (by rw [atI_nat]; exact e)
theorem rd_ixTn {j : Nat} (hx : SqT K H a xs) (e : xs[j]? = some v) (h : Q v H) : rIx K (.ref a) (.int j) H Q := rd_ixT h hx (by rw [atI_nat]; exact e)
theorem rd_sl {r : V → Option Int → Option Int → Hp → VK → Prop} (h : te σ H fun x H1 => t1 σ H1 fun l H2 => t2 σ H2 fun u H3 => r x l u H3 Q) : tSl r te t1 t2 σ H Q := h
theorem rd_noPart {R : Option Int → Hp → Prop} (h : R none H) : tNoPart σ H R := h
theorem rd_part {R : Option Int → Hp → Prop} (h : te σ H fun x H1 => ∃ i, x = .int i ∧ R (some i) H1) : tPart te σ H R := h
theorem str_len_app (x y : Str) : (x ++ y).length = x.length + y.length := by rw [len_tl, tl_append, List.length_append, ← len_tl, ← len_tl]
theorem rd_pint {R : Int → Prop} (h : R i) : ∃ i', V.int i = .int i' ∧ R i' := ⟨i, rfl, h⟩
theorem rd_slS {lo hi : Option Int} (hz : x.length ≤ sizeLine) (h : Q (.str (cutS x lo hi)) H) : rSlS (.str x) lo hi H Q := ⟨x, rfl, hz, h⟩
theorem TextAt.typed_small {CT CP : Addr} {t : TxI} (h : TextAt K CT CP H a t) : (mkS (tyL t.ss)).length ≤ sizeLine := by rw [mkS_len]; exact tyL_line h.ok h.few
end
end L2.Px
set_option Elab.async false
set_option linter.all false
set_option maxRecDepth 100000
set_option maxHeartbeats 1000000
namespace L2.Px
open PySem PySem.Spec PyProof.Rows StX TL
theorem twenty_line : 64 ≤ sizeLine := by rw [sizeLine_eq]; decide
theorem four_line : 4 ≤ sizeLine := by rw [sizeLine_eq]; decide
theorem StepsAt.append {K : PySem.W.Frag} {H : Hp} {ms ns : List V} {ss tt : List Stp} (h : StepsAt K H ms ss) (g : StepsAt K H ns tt) : StepsAt K H (ms ++ ns) (ss ++ tt) := by
  refine ⟨by rw [List.length_append, List.length_append, h.1, g.1], fun j s hj => ?_⟩
  by_cases hl : j < ss.length
  · rw [List.getElem?_append_left hl] at hj
    obtain ⟨v, e1, e2⟩ := h.2 j s hj
    exact ⟨v, by rw [List.getElem?_append_left (by rw [h.1]; exact hl)]; exact e1, e2⟩
  · rw [List.getElem?_append_right (by omega)] at hj
    obtain ⟨v, e1, e2⟩ := g.2 _ s hj
    exact ⟨v, by rw [List.getElem?_append_right (by rw [h.1]; omega), h.1]; exact e1, e2⟩
theorem StepsAt.one {K : PySem.W.Frag} {H : Hp} {v : V} {s : Stp} (h : StepAt K H v s) : StepsAt K H [v] [s] := by
  refine ⟨rfl, fun j s' hj => ?_⟩
  cases j with
  | zero => cases hj; exact ⟨v, rfl, h⟩
  | succ j => simp at hj
theorem StepAt.one' {K : PySem.W.Frag} {H : Hp} {v : V} {s : Stp} (h : StepAt K H v s) : StepsAt K H [v] [s] := .one h
def rt1 (k c n : Nat) : Stp → Stp
  | .wr w => if n ≤ k ∧ k < n + w.length then .wr (mkS ((tl w).set (k - n) c)) else .wr w
  | .pa f l t => .pa f l t
theorem rt_cons (k c n : Nat) (s : Stp) (r : List Stp) : rt k c n (s :: r) = rt1 k c n s :: rt k c (n + (ty1 s).length) r := by
  cases s with
  | wr w => simp only [rt, rt1, ty1, ← len_tl]
  | pa f l t => simp only [rt, rt1, ty1, List.length_nil, Nat.add_zero]
theorem rt_append (k c : Nat) : ∀ (n : Nat) (a b : List Stp), rt k c n (a ++ b) = rt k c n a ++ rt k c (n + (tyL a).length) b
  | n, [], b => by simp [rt, tyL]
  | n, s :: a, b => by
    rw [List.cons_append, rt_cons, rt_cons, rt_append k c _ a b, List.cons_append]
    simp only [tyL, List.length_append]
    rw [Nat.add_assoc]
theorem rt_take {k c : Nat} {ss : List Stp} {i : Nat} {s : Stp} (h : ss[i]? = some s) : rt k c 0 (ss.take (i + 1)) = rt k c 0 (ss.take i) ++ [rt1 k c (tyL (ss.take i)).length s] := by
  rw [take_snoc h, rt_append, Nat.zero_add, rt_cons]; rfl
theorem len1_rt1 (k c n : Nat) (s : Stp) : len1 (rt1 k c n s) = len1 s := by
  cases s with
  | wr w =>
    simp only [rt1]
    split
    · simp only [len1, mkS_len, List.length_set, ← len_tl]
    · rfl
  | pa f l t => rfl
theorem ok_rt1 {k c n m : Nat} {s : Stp} (hc : 97 ≤ c ∧ c ≤ 122) (h : okStep m s) : okStep m (rt1 k c n s) := by
  cases s with
  | wr w =>
    simp only [rt1]
    split
    · obtain ⟨h1, h2, h3⟩ := h
      refine ⟨by rw [mkS_len, List.length_set, ← len_tl]; exact h1, by rw [mkS_len, List.length_set, ← len_tl]; exact h2, fun x hx => ?_⟩
      rw [tl_mkS] at hx
      rcases List.mem_or_eq_of_mem_set hx with hx | rfl
      · exact h3 x hx
      · exact hc
    · exact h
  | pa f l t => exact h
theorem ok_rt {k c : Nat} (hc : 97 ≤ c ∧ c ≤ 122) : ∀ (n m : Nat) (ss : List Stp), okFrom m ss → okFrom m (rt k c n ss)
  | n, m, [], h => h
  | n, m, s :: r, ⟨h1, h2, h3⟩ => by
    rw [rt_cons]
    refine ⟨ok_rt1 hc h1, by rw [len1_rt1]; exact h2, ?_⟩
    rw [len1_rt1]
    exact ok_rt hc _ _ r h3
theorem rt_length (k c : Nat) : ∀ (n : Nat) (ss : List Stp), (rt k c n ss).length = ss.length
  | n, [] => rfl
  | n, s :: r => by rw [rt_cons, List.length_cons, rt_length k c _ r, List.length_cons]
/-- a word with one letter set -/
theorem word_set {w : Str} {p c : Nat} (hp : p < w.length) : cutS w none (some (p : Nat)) ++ (⟨#[c]⟩ : Str) ++ cutS w (some ((p : Nat) + 1)) none = mkS ((tl w).set p c) := by
  apply ext_tl
  have e2 : ((p : Nat) : Int) + 1 = ((p + 1 : Nat) : Int) := by omega
  rw [tl_append, tl_append, tl_mkS, e2]
  have hl : (tl w).length = w.length := (len_tl w).symm
  unfold cutS
  rw [HT.sIx_none, HT.sIx_none, HT.sIx_nat, HT.sIx_nat, Nat.min_eq_left (by omega), Nat.min_eq_left (by omega)]
  simp only [tl, List.drop_zero, Nat.sub_zero]
  rw [List.set_eq_take_append_cons_drop, if_pos (by show p < (tl w).length; omega)]
  show List.take p (tl w) ++ [c] ++ List.take (w.length - (p + 1)) (List.drop (p + 1) (tl w)) = List.take p (tl w) ++ c :: List.drop (p + 1) (tl w)
  have e3 : List.take (w.length - (p + 1)) (List.drop (p + 1) (tl w)) = List.drop (p + 1) (tl w) := List.take_of_length_le (by rw [List.length_drop]; omega)
  rw [e3]
  simp
theorem len1_mv (n : Nat) (s : Stp) : len1 (mv n s) = len1 s := by
  cases s with
  | wr w => rfl
  | pa f l t => simp only [mv, len1]; rw [show l + n - (f + n) = l - f by omega]
theorem ty1_mv (n : Nat) (s : Stp) : ty1 (mv n s) = ty1 s := by cases s <;> rfl
theorem ok_mv {n m : Nat} {s : Stp} (h : okStep m s) : okStep (m + n) (mv n s) := by
  cases s with
  | wr w => exact h
  | pa f l t => obtain ⟨a, b, c, d⟩ := h; exact ⟨by omega, by omega, c, d⟩
theorem tyL_mv (n : Nat) : ∀ ss : List Stp, tyL (ss.map (mv n)) = tyL ss
  | [] => rfl
  | s :: r => by rw [List.map_cons]; simp only [tyL]; rw [ty1_mv, tyL_mv n r]
theorem ok_mvs (n : Nat) : ∀ (m : Nat) (ss : List Stp), okFrom m ss → m + n + sz ss ≤ 1000000000000000000 → okFrom (m + n) (ss.map (mv n))
  | m, [], _, _ => trivial
  | m, s :: r, ⟨h1, h2, h3⟩, hz => by
    simp only [sz] at hz
    refine ⟨ok_mv h1, by rw [len1_mv]; omega, ?_⟩
    rw [len1_mv, show m + n + len1 s = m + len1 s + n by omega]
    exact ok_mvs n _ r h3 (by omega)
theorem tyL_join (a b : List Stp) : tyL (joinS a b) = tyL a ++ tyL b := by unfold joinS; rw [tyL_append, tyL_mv]
theorem ok_join {a b : List Stp} (ha : okFrom 0 a) (hb : okFrom 0 b) (hz : sz a + sz b ≤ 1000000000000000000) : okFrom 0 (joinS a b) := by
  unfold joinS
  rw [okFrom_append]
  refine ⟨ha, ?_⟩
  exact ok_mvs (sz a) 0 b hb (by omega)
theorem join_length (a b : List Stp) : (joinS a b).length = a.length + b.length := by unfold joinS; rw [List.length_append, List.length_map]
theorem sz_mul {ss : List Stp} {n : Nat} (hn : 1 ≤ n) : sz (mulS ss n) = sz ss * n := by
  unfold mulS
  split
  · rename_i h
    rcases h with h | h
    · rw [h, Nat.mul_one]
    · rw [h, Nat.zero_mul]
  · rename_i h
    have h1 : sz ss ≠ 0 := fun z => h (.inr z)
    rw [sz_append]
    simp only [sz, len1, Nat.add_zero]
    rw [show sz ss - 1 - 0 + 1 = sz ss by omega]
    obtain ⟨m, rfl⟩ : ∃ m, n = m + 1 := ⟨n - 1, by omega⟩
    rw [Nat.add_sub_cancel, Nat.mul_succ]; omega
theorem mul_length (ss : List Stp) (n : Nat) : (mulS ss n).length ≤ ss.length + 1 := by
  unfold mulS
  split
  · omega
  · rw [List.length_append]; simp
theorem ok_mul {ss : List Stp} {n : Nat} (ok : okFrom 0 ss) (hn : 1 ≤ n) (hn2 : n ≤ 1000000000) (hz : sz ss * n ≤ 1000000000000000000) : okFrom 0 (mulS ss n) := by
  have e := sz_mul (ss := ss) hn
  unfold mulS at e ⊢
  split
  · exact ok
  · rename_i h
    rw [if_neg h, sz_append] at e
    have h1 : sz ss ≠ 0 := fun z => h (.inr z)
    have h2 : n ≠ 1 := fun z => h (.inl z)
    rw [okFrom_append]
    refine ⟨ok, ⟨by omega, by omega, by omega, by omega⟩, ?_, trivial⟩
    simp only [sz, Nat.add_zero] at e
    omega
end L2.Px
set_option Elab.async false
set_option linter.all false
set_option maxRecDepth 100000
set_option maxHeartbeats 1000000
namespace L2.Px
open PySem PySem.Spec PyProof.Rows StX TL
section
variable {X : Cx} {K : PySem.W.Frag} {e o tg : Expr} {es : List Expr} {ta te to : TE} {t : TA} {f name : Str} {pos apos cpos p : Pos} {T id : String} {r : V → List V → Hp → VK → Prop}
theorem pe_fldK (hk : X.K = K) (he : PE X e ta) (hb : attributeBase e f X.env (eval e X.env) = eval e X.env) : PE X (.Attribute e f pos) (tFld K ta f) := hk ▸ pe_fld he hb
theorem ixK (hk : X.K = K) : IxR X (rIx K) := hk ▸ ix_seq
theorem addK (hk : X.K = K) : OpR X (binaryOp .Add) (rAddA K) := hk ▸ oAdd
theorem eqK (hk : X.K = K) (hu : X.A.units + 64 < cLine) : OpR X (compareOp .Eq) (rEqA K) := hk ▸ oEq hu
theorem neK (hk : X.K = K) (hu : X.A.units + 64 < cLine) : OpR X (compareOp .NotEq) (rNeA K) := hk ▸ oNe hu
theorem lenK (hk : X.K = K) : CallR X (.builtin "len") (rLenA K) := hk ▸ cLen
theorem listK (hk : X.K = K) : CallR X (.type "list") (rListA K) := hk ▸ cList
theorem tupK (hk : X.K = K) : CallR X (.type "tuple") (rTupA K) := hk ▸ cTup
theorem isiK (hk : X.K = K) : CallR X (.builtin "isinstance") (rIsi K) := hk ▸ call_isi
theorem allK (hk : X.K = K) (hc : X.calm = true) : CallR X (.builtin "all") (rAll K) := hk ▸ cr_all hc
theorem pi_listK {tl : TE} (hk : X.K = K) (hl : PE X o tl) : PI X tg o (iList K tl) := hk ▸ pi_list hl
theorem pi_tupK {tl : TE} (hk : X.K = K) (hl : PE X o tl) : PI X tg o (iTup K tl) := hk ▸ pi_tup hl
theorem pa_starK (hk : X.K = K) (he : PE X e te) (hr : PA X es t) (hs : starEach (.Starred e p :: es) X.env = (true, eval e X.env) :: starEach es X.env := by rfl) : PA X (.Starred e p :: es) (tStar K te t) := hk ▸ pa_star he hr hs
theorem pg_tupK {k : Nat} {t : TGs} {n : Nat} (hk : X.K = K) (hc : X.calm = true) (h : PGs X es t)
    (hn : (assignEach es X.env).length = n := by rfl) (hst : (assignEach es X.env).findIdx? (·.1) = none := by rfl) : PG X (.Tuple es k pos) (gTup K n t) := hk ▸ pg_tup hc h hn hst
theorem pe_bmK (hk : X.K = K) (pa : PlainAttrs T) (slot : Slot T name id) (hty : typeOf (.builtin id) = pure (.type "method_descriptor")) (hm : MtR X id r) (ho : PE X o to) (ha : PA X (e :: es) t)
    (hbase : attributeBase o name X.env (eval o X.env) = eval o X.env := by rfl)
    (hfew : ((backTo cpos (starEach (e :: es) X.env)).all (fun x => !x.1) && (backToKw cpos (keywordEach [] X.env)).all (fun x => x.1.isSome)
      && decide ((e :: es).length + ([] : List Keyword).length + (if ([] : List Keyword).isEmpty then 0 else 1) < 30)) = true := by rfl)
    (hline : (apos.endLine == cpos.line) = true := by rfl) (hs : starEach (e :: es) X.env = (false, eval e X.env) :: starEach es X.env := by rfl) (hplain : (backTo cpos (starEach es X.env)).any (·.1) = false := by rfl) :
    PE X (.Call (.Attribute o name apos) (e :: es) [] cpos) (tBM K T r to t) := hk ▸ pe_bm pa slot hty hm ho ha hbase hfew hline hs hplain
end
/-- the loop of Text.retyped -/
def RtPv (K : PySem.W.Frag) (H : Hp) (a l : Addr) (k c : Nat) (ss : List Stp) (i : Nat) (σ : St) (H' : Hp) : Prop := ∃ ys v5 v6 v7, σ = [some (.ref a), some (.int k), some (.str ⟨#[c]⟩), some (.ref l), some (.int (tyL (ss.take i)).length), v5, v6, v7] ∧ Same H H' ∧ H l = none ∧ H' l = some (.lst ys) ∧ StepsAt K H' ys (rt k c 0 (ss.take i))
theorem RtPv.next {K : PySem.W.Frag} {H Hx : Hp} {a l p : Addr} {k c i : Nat} {ss : List Stp} {s : Stp} {ys : List V} {v6 v7 : Option V} (hs : ss[i]? = some s) (S : Same H Hx) (hl : H l = none) (e : Hx l = some (.lst ys)) (h : StepsAt K Hx ys (rt k c 0 (ss.take i))) (hp : SqT K Hx p (stV (rt1 k c (tyL (ss.take i)).length s))) (few : ss.length ≤ 30)
    {n : Nat} (hn : n = (tyL (ss.take i)).length + (ty1 s).length) {R : Hp → Prop} (q : ∀ H2, RtPv K H a l k c ss (i + 1) [some (.ref a), some (.int k), some (.str ⟨#[c]⟩), some (.ref l), some (.int n), some (.ref p), v6, v7] H2 → R H2) : rAppend (.ref l) [.ref p] Hx fun _ H2 => R H2 := by
  have hi : i < ss.length := (List.getElem?_eq_some_iff.mp hs).1
  refine rd_append e ?_ (q _ ?_)
  · rw [h.1, rt_length, List.length_take]; have := line30; omega
  · have B : But l Hx (upd Hx l (.lst (ys ++ [.ref p]))) := But.at But.refl
    have f := free1_lst e
    refine ⟨ys ++ [.ref p], some (.ref p), v6, v7, ?_, Same.mut S hl, hl, upd_same, ?_⟩
    · rw [tyL_take hs, List.length_append, hn]
    · rw [rt_take hs]
      exact (B.steps f h).append (StepAt.one' ⟨p, rfl, B.tup f hp⟩)
end L2.Px
set_option Elab.async false
set_option linter.all false
set_option maxRecDepth 100000
set_option maxHeartbeats 1000000
namespace L2.Px
open PySem PySem.Spec PyProof.Rows StX TL
/-- the shape of the row -/
def isRow : HO → Prop
  | .lst [.ref _, .int _, .int _, .int _] => True
  | _ => False
/-- all but rows is as it was, and rows keep what they draw from -/
structure Kp (H H' : Hp) : Prop where
  keep : ∀ b o, ¬ isRow o → H b = some o → H' b = some o
  rows : ∀ (b sa : Addr) (i s e : Int), H b = some (.lst [.ref sa, .int i, .int s, .int e]) → ∃ i' s' e' : Int, H' b = some (.lst [.ref sa, .int i', .int s', .int e'])
instance {H H' : Hp} : CoeFun (Kp H H') (fun _ => ∀ b o, ¬ isRow o → H b = some o → H' b = some o) := ⟨Kp.keep⟩
structure RowAt (K : PySem.W.Frag) (H : Hp) (r : Addr) : Prop where
  ex : ∃ (sa : Addr) (sc : List Int) (i : Nat) (s e : Int), H r = some (.lst [.ref sa, .int i, .int s, .int e]) ∧ SqL K H sa (sc.map V.int)
section
variable {K : PySem.W.Frag} {H H' H1 : Hp} {a r p : Addr} {xs ys : List V} {o : HO} {v : V} {s : Stp} {ms ps : List V} {ss : List Stp} {CT CP : Addr} {t : TxI}
theorem Kp.refl : Kp H H := ⟨fun _ _ _ h => h, fun _ _ _ _ _ h => ⟨_, _, _, h⟩⟩
theorem Kp.trans (a : Kp H H1) (b : Kp H1 H') : Kp H H' := ⟨fun c o hc h => b.keep c o hc (a.keep c o hc h), fun c sa i s e h => let ⟨i', s', e', h'⟩ := a.rows c sa i s e h; b.rows c sa i' s' e' h'⟩
theorem Kp.same (e : Same H H') : Kp H H' := ⟨fun b o _ h => e b o h, fun b _ _ _ _ h => ⟨_, _, _, e b _ h⟩⟩
theorem Kp.new (e : Kp H H') (hp : H' p = none) : Kp H (upd H' p o) := e.trans (Kp.same (Same.new (Same.refl _) hp))
/-- the row is written -/
theorem Kp.row (e : Kp H H') {sa : Addr} {i s n i' s' n' : Int} (h : H' r = some (.lst [.ref sa, .int i, .int s, .int n])) : Kp H (upd H' r (.lst [.ref sa, .int i', .int s', .int n'])) := by
  refine e.trans ⟨fun b w hw q => ?_, fun b sb i1 s1 n1 q => ?_⟩
  · rw [upd_ne fun z => by subst z; rw [h] at q; cases q; exact hw trivial]; exact q
  · by_cases hb : b = r
    · subst hb; rw [h] at q; cases q; exact ⟨_, _, _, upd_same⟩
    · exact ⟨_, _, _, by rw [upd_ne hb]; exact q⟩
theorem Kp.mut (e : Kp H H') (h : H p = none) : Kp H (upd H' p o) :=
  ⟨fun b w hw q => by rw [upd_ne (ne_of_none q h)]; exact e.keep b w hw q, fun b sa i s n q => let ⟨i', s', e', h'⟩ := e.rows b sa i s n q; ⟨i', s', e', by rw [upd_ne (ne_of_none q h)]; exact h'⟩⟩
theorem nr_tup : ¬ isRow (.tup xs) := id
theorem nr_ins {C dx : Addr} {fs : List (Str × V)} : ¬ isRow (.ins C dx fs) := id
theorem nr_frz {u : HO} {o' : Obj} : ¬ isRow (.frz o' u) := id
def isRef : V → Bool
  | .ref _ => true
  | _ => false
theorem nr_refs (h : ∀ v ∈ xs, isRef v = true) : ¬ isRow (.lst xs) := by
  intro z
  unfold isRow at z
  split at z
  · rename_i e
    simp only [HO.lst.injEq] at e
    subst e
    have := h _ (List.mem_cons_of_mem _ List.mem_cons_self)
    cases this
  · exact z
theorem nr_vals (h : ∀ v ∈ xs, isRef v = false) : ¬ isRow (.lst xs) := by
  intro z
  unfold isRow at z
  split at z
  · rename_i e
    simp only [HO.lst.injEq] at e
    subst e
    have := h _ List.mem_cons_self
    cases this
  · exact z
theorem nr_ints {l : List Int} : ¬ isRow (.lst (l.map V.int)) := nr_vals fun v hv => by obtain ⟨i, _, rfl⟩ := List.mem_map.mp hv; rfl
theorem Kp.tup (e : Kp H H') (h : SqT K H a xs) : SqT K H' a xs := by
  rcases h with (h | ⟨o, h⟩) | h
  · exact .inl (.inl (e _ _ nr_tup h))
  · exact .inl (.inr ⟨o, e _ _ nr_frz h⟩)
  · exact .inr h
theorem Kp.lst (e : Kp H H') (n : ¬ isRow (.lst xs)) (h : SqL K H a xs) : SqL K H' a xs := by
  rcases h with (h | ⟨o, h⟩) | h
  · exact .inl (.inl (e _ _ n h))
  · exact .inl (.inr ⟨o, e _ _ nr_frz h⟩)
  · exact .inr h
theorem RowAt.mono (h : RowAt K H r) (e : Same H H') : RowAt K H' r := let ⟨sa, sc, i, s, n, a, b⟩ := h.ex; ⟨sa, sc, i, s, n, e _ _ a, e.seq b⟩
theorem StepAt.kp (h : StepAt K H v s) (e : Kp H H') : StepAt K H' v s := let ⟨a, ev, q⟩ := h; ⟨a, ev, e.tup q⟩
theorem StepsAt.kp (h : StepsAt K H ms ss) (e : Kp H H') : StepsAt K H' ms ss := ⟨h.1, fun j s q => let ⟨v, a, b⟩ := h.2 j s q; ⟨v, a, b.kp e⟩⟩
theorem StepsAt.refs (h : StepsAt K H ms ss) : ∀ v ∈ ms, isRef v = true := by
  intro v hv
  obtain ⟨j, hj, rfl⟩ := List.getElem_of_mem hv
  obtain ⟨s, _, a, e, _⟩ := h.at (List.getElem?_eq_getElem hj)
  rw [e]; rfl
theorem PartAt.kp {n y : Nat} (h : PartAt CP H v n y s) (e : Kp H H') : PartAt CP H' v n y s := by
  cases s with
  | wr w => obtain ⟨p, dx, ev, q⟩ := h; exact ⟨p, dx, ev, e _ _ nr_ins q⟩
  | pa f l t => obtain ⟨p, dx, ev, q⟩ := h; exact ⟨p, dx, ev, e _ _ nr_ins q⟩
theorem PartsAt.refs (h : PartsAt CP H ps ss) : ∀ v ∈ ps, isRef v = true := by
  intro v hv
  obtain ⟨j, hj, rfl⟩ := List.getElem_of_mem hv
  have hj' : j < ss.length := by rw [← h.1]; exact hj
  obtain ⟨v, e1, e2⟩ := h.2 j _ (List.getElem?_eq_getElem hj')
  rw [List.getElem?_eq_getElem hj] at e1
  cases e1
  cases hs : ss[j] with
  | wr w => rw [hs] at e2; obtain ⟨p, dx, ev, q⟩ := e2; rw [ev]; rfl
  | pa f l t => rw [hs] at e2; obtain ⟨p, dx, ev, q⟩ := e2; rw [ev]; rfl
theorem PartsAt.kp (h : PartsAt CP H ps ss) (e : Kp H H') : PartsAt CP H' ps ss := ⟨h.1, fun j s q => let ⟨v, a, b⟩ := h.2 j s q; ⟨v, a, b.kp e⟩⟩
theorem TextAt.kp (h : TextAt K CT CP H a t) (e : Kp H H') : TextAt K CT CP H' a t := ⟨e _ _ nr_ins h.ins, e.tup h.made, h.stp.kp e, e _ _ (nr_refs h.prt.refs) h.pls, h.prt.kp e, h.ok, h.few⟩
end
theorem take_fin {many : Nat} (h : 1 ≤ many) (x : Int) {Q : VK} {H : Hp} (k : ∀ n : Nat, n < many → Q (.int n) H) : Q (.int (x % (many : Nat))) H := by
  have h1 : 0 ≤ x % (many : Int) := Int.emod_nonneg x (by omega)
  have h2 : x % (many : Int) < (many : Int) := Int.emod_lt_of_pos x (by omega)
  have := k (x % (many : Int)).toNat (by omega)
  rw [Int.toNat_of_nonneg h1] at this
  exact this
theorem row_put {K : PySem.W.Frag} {H H' : Hp} {r sa : Addr} {sc : List Int} {i j : Nat} {s e s' e' : Int} (S : Kp H H') (h : H' r = some (.lst [.ref sa, .int i, .int s, .int e])) (hs : SqL K H' sa (sc.map V.int)) :
    Kp H (upd H' r (.lst [.ref sa, .int j, .int s', .int e'])) ∧ upd H' r (.lst [.ref sa, .int j, .int s', .int e']) r = some (.lst [.ref sa, .int j, .int s', .int e']) ∧ SqL K (upd H' r (.lst [.ref sa, .int j, .int s', .int e'])) sa (sc.map V.int) :=
  ⟨S.row h, upd_same, (Kp.refl.row h).lst nr_ints hs⟩
section
variable (K : PySem.W.Frag)
def sp_x_law_taken : Sp := fun vs H Q _ => ∃ (r : Addr) (many : Nat), vs = [.ref r, .int many] ∧ RowAt K H r ∧ 1 ≤ many ∧ many < 1073741824 ∧ ∀ (n : Nat) H', n < many → Kp H H' → RowAt K H' r → Q (.int n) H'
def okWord (w : Str) (m : Nat) : Prop := 1 ≤ w.length ∧ w.length ≤ m ∧ ∀ c ∈ tl w, c = 97 ∨ c = 98 ∨ c = 99 ∨ c = 122
def sp_x_law_word : Sp := fun vs H Q _ => ∃ (r : Addr) (most : Nat), vs = [.ref r, .int most] ∧ RowAt K H r ∧ 1 ≤ most ∧ most ≤ 20 ∧ ∀ (w : Str) H', okWord w most → Kp H H' → RowAt K H' r → Q (.str w) H'
/-- typed as a, b, c, z -/
def okLs (ss : List Stp) : Prop := ∀ c ∈ tyL ss, c = 97 ∨ c = 98 ∨ c = 99 ∨ c = 122
def sp_x_law_steps : Sp := fun vs H Q _ => ∃ (r : Addr) (count most : Nat), vs = [.ref r, .int count, .int most] ∧ RowAt K H r ∧ count ≤ 30 ∧ 1 ≤ most ∧ most ≤ 1000 ∧
  ∀ a ms ss H', Kp H H' → RowAt K H' r → SqT K H' a ms → StepsAt K H' ms ss → okFrom 0 ss → ss.length ≤ count → sz ss ≤ most → (1 ≤ count → 20 ≤ most → 1 ≤ sz ss) → okLs ss → Q (.ref a) H'
end
end L2.Px
namespace L2.Px
open PySem PySem.Spec PyProof.Rows StX TL
theorem one_line : 1 ≤ sizeLine := by rw [sizeLine_eq]; decide
theorem nr_nats {l : List Nat} : ¬ isRow (.lst (l.map fun m => V.int (m : Nat))) := nr_vals fun v hv => by obtain ⟨i, _, rfl⟩ := List.mem_map.mp hv; rfl
theorem StepsAt.snoc {K : PySem.W.Frag} {H : Hp} {ms : List V} {ss : List Stp} {v : V} {s : Stp} (h : StepsAt K H ms ss) (g : StepAt K H v s) : StepsAt K H (ms ++ [v]) (ss ++ [s]) := h.append (.one g)
theorem StepsAt.nil {K : PySem.W.Frag} {H : Hp} : StepsAt K H [] [] := ⟨rfl, fun j s h => by simp at h⟩
theorem ok_snoc {ss : List Stp} {s : Stp} (ok : okFrom 0 ss) (h : okStep (sz ss) s) (hz : sz ss + len1 s ≤ 1000000000000000000) : okFrom 0 (ss ++ [s]) := by
  rw [okFrom_append, Nat.zero_add]
  exact ⟨ok, h, hz, trivial⟩
theorem sz_snoc (ss : List Stp) (s : Stp) : sz (ss ++ [s]) = sz ss + len1 s := by rw [sz_append]; simp [sz]
theorem okWord.step {w : Str} {m n : Nat} (h : okWord w m) (hm : m ≤ 20) : okStep n (.wr w) := ⟨h.1, Nat.le_trans h.2.1 hm, fun c hc => by rcases h.2.2 c hc with e | e | e | e <;> omega⟩
theorem rd_ifOr {t u : TT} {st su : TS} {D : Ends} {σ : St} {H : Hp} (P : Hp → Prop) (ha : ∀ Hc, P Hc → st D σ Hc) (h : (∀ Hc, P Hc → (if true = true then st D σ Hc else su D σ Hc)) → tOr t u σ H fun b H1 => if b = true then st D σ H1 else su D σ H1) : tIfS (tOr t u) st su D σ H := h (fun Hc p => by rw [if_pos rfl]; exact ha Hc p)
theorem okLs.wr {ss : List Stp} {x : Str} {m : Nat} (h : okLs ss) (hx : okWord x m) : okLs (ss ++ [.wr x]) := fun c hc => by
  rw [tyL_append] at hc
  rcases List.mem_append.mp hc with hc | hc
  · exact h c hc
  · exact hx.2.2 c (by simpa [tyL, ty1] using hc)
theorem okLs.pa {ss : List Stp} {f l t : Nat} (h : okLs ss) : okLs (ss ++ [.pa f l t]) := fun c hc => by
  rw [tyL_append] at hc
  rcases List.mem_append.mp hc with hc | hc
  · exact h c hc
  · simp [tyL, ty1] at hc
end L2.Px
set_option Elab.async false
set_option linter.all false
set_option maxRecDepth 100000
set_option maxHeartbeats 1000000
namespace L2.Px
open PySem PySem.Spec PyProof.Rows StX
section
variable {X : Cx} {CX : CXT} {k : Nat} {C f : Addr} {sp : Sp} {E : XK}
def rEqO (K : PySem.W.Frag) (C : Addr) (sp : Sp) (E : XK) : R2 := fun x y H Q => ∃ a b, x = .ref a ∧ y = .ref b ∧ InsA H a C ∧ (InsA H b C ∨ ∃ xs, SqT K H b xs) ∧ sp [.ref a, .ref b] H Q E
def rNeO (C : Addr) (sp : Sp) (E : XK) : R2 := fun x y H Q => ∃ a b, x = .ref a ∧ y = .ref b ∧ InsA H a C ∧ InsA H b C ∧ sp [.ref a, .ref b] H (fun v H' => ∃ k, v = .bl k ∧ Q (.bl (!k)) H') E
theorem rd_eqO {K : PySem.W.Frag} {a b : Addr} {H : Hp} {Q : VK} (i : InsA H a C) (j : InsA H b C) (h : sp [.ref a, .ref b] H Q E) : rEqO K C sp E (.ref a) (.ref b) H Q := ⟨a, b, rfl, rfl, i, .inl j, h⟩
theorem rd_eqOT {K : PySem.W.Frag} {a b : Addr} {H : Hp} {Q : VK} {xs : List V} (i : InsA H a C) (j : SqT K H b xs) (h : sp [.ref a, .ref b] H Q E) : rEqO K C sp E (.ref a) (.ref b) H Q := ⟨a, b, rfl, rfl, i, .inr ⟨xs, j⟩, h⟩
theorem rd_neO {a b : Addr} {H : Hp} {Q : VK} (i : InsA H a C) (j : InsA H b C) (h : sp [.ref a, .ref b] H (fun v H' => ∃ k, v = .bl k ∧ Q (.bl (!k)) H') E) : rNeO C sp E (.ref a) (.ref b) H Q := ⟨a, b, rfl, rfl, i, j, h⟩
end
end L2.Px
namespace L2.Px
open PySem PySem.Spec PyProof.Rows StX TL
mutual
theorem eqv_refl : ∀ d : PyData, d.canLay0 = true → PyData.eqv d d = true
  | .none, _ => by simp only [PyData.eqv]
  | .bool b, _ => by simp [PyData.eqv]
  | .int i, _ => by simp [PyData.eqv]
  | .str x, _ => by simp [PyData.eqv]
  | .list xs, h => by
    have h' : PyData.canLayAll0 xs = true := by simpa [PyData.canLay0] using h
    simp only [PyData.eqv]; exact eqvAll_refl xs h'
  | .tuple xs, h => by
    have h' : PyData.canLayAll0 xs = true := by simpa [PyData.canLay0] using h
    simp only [PyData.eqv]; exact eqvAll_refl xs h'
  | .dict _, h => by simp [PyData.canLay0] at h
theorem eqvAll_refl : ∀ ds : List PyData, PyData.canLayAll0 ds = true → PyData.eqvAll ds ds = true
  | [], _ => by simp only [PyData.eqvAll]
  | d :: ds, h => by
    have h' : PyData.canLay0 d = true ∧ PyData.canLayAll0 ds = true := by simpa [PyData.canLayAll0] using h
    simp only [PyData.eqvAll, Bool.and_eq_true]
    exact ⟨eqv_refl d h'.1, eqvAll_refl ds h'.2⟩
end
/-- data whose depth is at most n -/
def DOk (n : Nat) (d : PyData) : Prop := d.canLay0 = true ∧ d.depth ≤ n
def DOkAll (n : Nat) (ds : List PyData) : Prop := PyData.canLayAll0 ds = true ∧ PyData.depthAll ds ≤ n
theorem DOk.shaped {n : Nat} {d : PyData} (h : DOk n d) (hn : n ≤ 64 := by decide) : SeqAt.shaped d = true := by
  unfold SeqAt.shaped
  rw [h.1, Bool.true_and]
  exact decide_eq_true (Nat.le_trans h.2 hn)
theorem DOkAll.of {n : Nat} {ds : List PyData} (h : ∀ d ∈ ds, DOk n d) : DOkAll n ds := by
  induction ds with
  | nil => exact ⟨by simp [PyData.canLayAll0], by simp [PyData.depthAll]⟩
  | cons d ds ih =>
    have h1 := h d List.mem_cons_self
    have h2 := ih fun e he => h e (List.mem_cons_of_mem _ he)
    refine ⟨by simp only [PyData.canLayAll0, Bool.and_eq_true]; exact ⟨h1.1, h2.1⟩, ?_⟩
    have a := h1.2; have b := h2.2
    simp only [PyData.depthAll]
    omega
theorem DOk.lst {n : Nat} {ds : List PyData} (h : ∀ d ∈ ds, DOk n d) : DOk (n + 1) (.list ds) := by
  have := DOkAll.of h
  exact ⟨by simp only [PyData.canLay0]; exact this.1, by simp only [PyData.depth]; have := this.2; omega⟩
theorem DOk.tup {n : Nat} {ds : List PyData} (h : ∀ d ∈ ds, DOk n d) : DOk (n + 1) (.tuple ds) := by
  have := DOkAll.of h
  exact ⟨by simp only [PyData.canLay0]; exact this.1, by simp only [PyData.depth]; have := this.2; omega⟩
theorem DOk.int {i : Int} : DOk 0 (.int i) := ⟨by simp [PyData.canLay0], by simp [PyData.depth]⟩
theorem DOk.bool {i : Bool} : DOk 0 (.bool i) := ⟨by simp [PyData.canLay0], by simp [PyData.depth]⟩
theorem DOk.non : DOk 0 .none := ⟨by simp [PyData.canLay0], by simp [PyData.depth]⟩
theorem DOk.str {x : Str} (h : PySem.PyData.strOk x = true) : DOk 0 (.str x) := ⟨by simp [PyData.canLay0, h], by simp [PyData.depth]⟩
theorem DOk.mono {n m : Nat} {d : PyData} (h : DOk n d) (hn : n ≤ m) : DOk m d := ⟨h.1, Nat.le_trans h.2 hn⟩
end L2.Px
namespace L2.Px
open PySem PySem.Spec PyProof.Rows StX TL
theorem strOk_of {x : Str} (h : ∀ c ∈ tl x, c ≤ 122) : PySem.PyData.strOk x = true := by
  unfold PySem.PyData.strOk
  rw [Array.all_eq_true']
  intro c hc
  have := h c (show c ∈ x.cps.toList from Array.mem_toList_iff.mpr hc)
  exact decide_eq_true (by omega)
def stD : Stp → PyData
  | .wr w => .tuple [.str "write", .str w]
  | .pa f l t => .tuple [.str "paste", .int f, .int l, .int t]
theorem stD_eq (s t : Stp) : PyData.eqv (stD s) (stD t) = decide (s = t) := by
  cases s <;> cases t <;> simp [stD, PyData.eqv, PyData.eqvAll, Bool.beq_eq_decide_eq, Int.natCast_inj]
theorem stDs_eq : ∀ a b : List Stp, PyData.eqvAll (a.map stD) (b.map stD) = decide (a = b)
  | [], [] => by simp [PyData.eqvAll]
  | [], _ :: _ => by simp [PyData.eqvAll]
  | _ :: _, [] => by simp [PyData.eqvAll]
  | s :: a, t :: b => by
    simp only [List.map_cons, PyData.eqvAll, stD_eq, stDs_eq a b]
    by_cases h : s = t <;> by_cases h2 : a = b <;> simp [h, h2]
section
variable {K : PySem.W.Frag} {H : Hp} {v w : V} {s : Stp} {ms xs : List V} {ss : List Stp} {ds : List PyData} {Q : VK} {n : Nat} {d : PyData}
theorem StepAt.dp (h : StepAt K H v s) : Dp K H v (stD s) := by
  obtain ⟨a, rfl, q⟩ := h
  cases s with
  | wr w => exact .tup q (.cons (.str _) (.cons (.str _) .nil))
  | pa f l t => exact .tup q (.cons (.str _) (.cons (.int _) (.cons (.int _) (.cons (.int _) .nil))))
theorem dpAll_of (hl : xs.length = ds.length) (h : ∀ (i : Nat) (v : V) (d : PyData), xs[i]? = some v → ds[i]? = some d → Dp K H v d) : DpAll K H xs ds := by
  induction xs generalizing ds with
  | nil => cases ds with
    | nil => exact .nil
    | cons d ds => simp at hl
  | cons x xs ih =>
    cases ds with
    | nil => simp at hl
    | cons d ds => exact .cons (h 0 x d rfl rfl) (ih (by simpa using hl) fun i v d a b => h (i + 1) v d (by simpa using a) (by simpa using b))
theorem StepsAt.dp (h : StepsAt K H ms ss) : DpAll K H ms (ss.map stD) := by
  refine dpAll_of (by rw [List.length_map, h.1]) fun i v d a b => ?_
  rw [List.getElem?_map] at b
  obtain ⟨s, hs, rfl⟩ := Option.map_eq_some_iff.mp b
  obtain ⟨v', e1, e2⟩ := h.2 i s hs
  rw [a] at e1; cases e1
  exact e2.dp
theorem okStep.dok {m : Nat} (h : okStep m s) : DOk 1 (stD s) := by
  cases s with
  | wr w =>
    refine .tup (n := 0) fun d hd => ?_
    simp only [List.mem_cons, List.not_mem_nil, or_false] at hd
    rcases hd with rfl | rfl
    · exact .str (by decide +kernel)
    · exact .str (strOk_of fun c hc => (h.2.2 c hc).2)
  | pa f l t =>
    refine .tup (n := 0) fun d hd => ?_
    simp only [List.mem_cons, List.not_mem_nil, or_false] at hd
    rcases hd with rfl | rfl | rfl | rfl
    · exact .str (by decide +kernel)
    · exact .int
    · exact .int
    · exact .int
theorem steps_dok (ok : okFrom 0 ss) : DOk 2 (.tuple (ss.map stD)) := by
  refine .tup fun d hd => ?_
  obtain ⟨s, hs, rfl⟩ := List.mem_map.mp hd
  obtain ⟨i, hi, rfl⟩ := List.getElem_of_mem hs
  exact (ok_at ok (List.getElem?_eq_getElem hi)).1.dok
theorem dp_nats {l : List Nat} : DpAll K H (l.map fun m => V.int (m : Nat)) (l.map fun m => PyData.int (m : Nat)) := by
  induction l with
  | nil => exact .nil
  | cons x l ih => exact .cons (.int _) ih
theorem nats_dok {l : List Nat} : DOk 1 (.list (l.map fun m => PyData.int (m : Nat))) := .lst fun d hd => by obtain ⟨i, _, rfl⟩ := List.mem_map.mp hd; exact .int
theorem rd_eq_same (hv : Dp K H v d) (hw : Dp K H w d) (ok : DOk n d) (hn : n ≤ 64) (q : Q (.bl true) H) : rEqA K v w H Q := rd_eq_dat hv hw (ok.shaped hn) (ok.shaped hn) (by rw [eqv_refl d ok.1]; exact q)
variable (K) (CT CP : Addr)
def sp_Text_eq : Sp := fun vs H Q _ => ∃ a b t, vs = [.ref a, .ref b] ∧ TextAt K CT CP H a t ∧ ((∃ u, TextAt K CT CP H b u ∧ Q (.bl (decide (t.ss = u.ss))) H) ∨ ∃ xs, SqT K H b xs ∧ Q (.bl false) H)
end
end L2.Px
set_option Elab.async false
set_option linter.all false
set_option maxRecDepth 100000
set_option maxHeartbeats 1000000
namespace L2.Px
open PySem PySem.Spec PyProof.Rows StX TL
/-- alike, to a depth: equal ints or texts, or tuples (lists) of alike items -/
def Al (K : PySem.W.Frag) (H : Hp) : Nat → V → V → Prop
  | 0, _, _ => False
  | n + 1, v, w => (∃ i, v = .int i ∧ w = .int i) ∨ (∃ x, v = .str x ∧ w = .str x ∧ x.length ≤ sizeLine) ∨ ∃ a b xs ys, v = .ref a ∧ w = .ref b ∧ (SqT K H a xs ∧ SqT K H b ys ∨ SqL K H a xs ∧ SqL K H b ys) ∧ xs.length = ys.length ∧ xs.length ≤ sizeLine ∧ ∀ (i : Nat) x y, xs[i]? = some x → ys[i]? = some y → Al K H n x y
section
variable {K : PySem.W.Frag} {H H' : Hp} {Q : VK} {v w : V} {n : Nat} {xs : List V} {a : Addr}
theorem Al.mono (e : Same H H') : ∀ {n : Nat} {v w : V}, Al K H n v w → Al K H' n v w
  | 0, _, _, h => h.elim
  | n + 1, _, _, h => by
    rcases h with h | h | ⟨a, b, xs, ys, h1, h2, h3, h4, h5, h6⟩
    · exact .inl h
    · exact .inr (.inl h)
    · refine .inr (.inr ⟨a, b, xs, ys, h1, h2, ?_, h4, h5, fun i x y p q => Al.mono e (h6 i x y p q)⟩)
      rcases h3 with ⟨p, q⟩ | ⟨p, q⟩
      · exact .inl ⟨Same.tup e p, Same.tup e q⟩
      · exact .inr ⟨e.seq p, e.seq q⟩
end
end L2.Px
namespace L2.Px
open PySem PySem.Spec PyProof.Rows StX TL
section
variable {K : PySem.W.Frag} {H H' : Hp} {Q : VK} {v w : V} {n : Nat} {xs : List V} {a : Addr} {σ : St} {te ta tb : TE} {i j : Int} {tr : St → Hp → (Int → Int → Hp → Prop) → Prop}
theorem rgV_nat (a b : Nat) : rgV (a : Nat) (b : Nat) = (List.range' a (b - a)).map fun m => V.int (m : Nat) := by
  unfold rgV
  rw [List.range'_eq_map_range, List.map_map, show (((b : Nat) : Int) - (a : Nat)).toNat = b - a by omega]
  apply List.map_congr_left
  intro i _
  simp
theorem rd_listRg (h : tr σ H fun a b H1 => RgOk a b ∧ ∀ q, H1 q = none → Q (.ref q) (upd H1 q (.lst (rgV a b)))) : tLstRg tr σ H Q := h
theorem rd_rg1 {R : Int → Int → Hp → Prop} (h : ta σ H fun x H1 => ∃ n, x = .int n ∧ R 0 n H1) : tRg1 ta σ H R := h
theorem rd_rg2 {R : Int → Int → Hp → Prop} (h : ta σ H fun x H1 => tb σ H1 fun y H2 => ∃ i j, x = .int i ∧ y = .int j ∧ R i j H2) : tRg2 ta tb σ H R := h
theorem rd_mul_lst {k : Nat} (h : H a = some (.lst xs)) (hk : k < 2 ^ 62) (hz : xs.length * k ≤ sizeLine) (q : ∀ p, H p = none → Q (.ref p) (upd H p (.lst (List.replicate k xs).flatten))) : rMulA (.ref a) (.int k) H Q :=
  .inr ⟨a, k, xs, rfl, rfl, h, by omega, by omega, by rw [Int.toNat_natCast]; exact hz, by rw [Int.toNat_natCast]; exact q⟩
end
theorem ks_take_wr {ss : List Stp} {j : Nat} {w : Str} (h : ss[j]? = some (.wr w)) : ks (ss.take (j + 1)) = ks (ss.take j) ++ List.range' (tyL (ss.take j)).length w.length := by
  unfold ks; rw [run_take h]; simp only [stepK]; rw [run_snd]
theorem ks_take_pa {ss : List Stp} {j f l t : Nat} (h : ss[j]? = some (.pa f l t)) : ks (ss.take (j + 1)) = ks (ss.take j) ++ (List.replicate t (((ks (ss.take j)).drop f).take (l - f + 1))).flatten := by
  unfold ks; rw [run_take h]; simp only [stepK]
theorem sz_take_le {ss : List Stp} (j : Nat) : sz (ss.take j) ≤ sz ss := by
  conv => rhs; rw [← List.take_append_drop j ss, sz_append]
  omega
end L2.Px
namespace L2.Px
open PySem PySem.Spec PyProof.Rows StX TL
section
variable {K : PySem.W.Frag} {H H' : Hp} {Q : VK} {v w : V} {n : Nat} {xs : List V} {a C : Addr} {σ : St} {ta tb : TE} {sp : Sp} {E : XK} {t : TA} {ss : List Stp} {ms : List V}
theorem rd_ixO (h : ta σ H fun x H1 => tb σ H1 fun y H2 => ∃ a, x = .ref a ∧ InsA H2 a C ∧ sp [x, y] H2 Q E) : tIxOwn C sp E ta tb σ H Q := h
theorem rd_ref1 {A : Addr → Prop} (h : A a) : ∃ a', V.ref a = .ref a' ∧ A a' := ⟨a, rfl, h⟩
theorem letters_ok : ∀ {ss : List Stp} {n : Nat}, okFrom n ss → ∀ c ∈ tyL ss, 97 ≤ c ∧ c ≤ 122
  | [], _, _, c, hc => by simp [tyL] at hc
  | .wr w :: r, n, ⟨h1, _, h3⟩, c, hc => by
    simp only [tyL, ty1, List.mem_append] at hc
    rcases hc with hc | hc
    · exact h1.2.2 c hc
    · exact letters_ok h3 c hc
  | .pa f l t :: r, n, ⟨h1, _, h3⟩, c, hc => by
    simp only [tyL, ty1, List.nil_append] at hc
    exact letters_ok h3 c hc
theorem Al.int {i : Int} : Al K H (n + 1) (.int i) (.int i) := .inl ⟨i, rfl, rfl⟩
theorem Al.str {x : Str} (h : x.length ≤ sizeLine) : Al K H (n + 1) (.str x) (.str x) := .inr (.inl ⟨x, rfl, rfl, h⟩)
theorem Al.step {s : Stp} {m : Nat} (ok : okStep m s) (h : StepAt K H v s) (g : StepAt K H w s) : Al K H (n + 2) v w := by
  obtain ⟨a, rfl, qa⟩ := h
  obtain ⟨b, rfl, qb⟩ := g
  refine .inr (.inr ⟨a, b, _, _, rfl, rfl, .inl ⟨qa, qb⟩, rfl, ?_, fun i x y hx hy => ?_⟩)
  · have := four_line
    cases s <;> simp [stV] <;> omega
  · rw [hx] at hy; cases hy
    have hm := List.mem_of_getElem? hx
    cases s with
    | wr w =>
      simp only [stV, List.mem_cons, List.not_mem_nil, or_false] at hm
      rcases hm with rfl | rfl
      · exact Al.str (str_small (by decide +kernel))
      · exact Al.str (str_small ok.2.1)
    | pa f l t =>
      simp only [stV, List.mem_cons, List.not_mem_nil, or_false] at hm
      rcases hm with rfl | rfl | rfl | rfl
      · exact Al.str (str_small (by decide +kernel))
      · exact Al.int
      · exact Al.int
      · exact Al.int
theorem Al.steps {a b : Addr} {xs ys : List V} (ok : okFrom 0 ss) (ha : SqT K H a xs) (hb : SqT K H b ys) (h : StepsAt K H xs ss) (g : StepsAt K H ys ss) (few : ss.length ≤ 31) : Al K H (n + 3) (.ref a) (.ref b) := by
  refine .inr (.inr ⟨a, b, _, _, rfl, rfl, .inl ⟨ha, hb⟩, by rw [h.1, g.1], by rw [h.1]; have := twenty_line; omega, fun i x y hx hy => ?_⟩)
  obtain ⟨s, hs, h1⟩ := h.at hx
  obtain ⟨s2, hs2, h2⟩ := g.at hy
  rw [hs] at hs2; cases hs2
  exact Al.step (ok_at ok hs).1 h1 h2
variable (K) (CT CP : Addr)
end
end L2.Px
namespace L2.Px
open PySem PySem.Spec PyProof.Rows StX TL
end L2.Px
namespace L2.Px
open PySem PySem.Spec PyProof.Rows StX TL
end L2.Px
namespace L2.Px
open PySem PySem.Spec PyProof.Rows StX TL
def rJoin (K : PySem.W.Frag) : V → List V → Hp → VK → Prop := fun x xs H Q => ∃ a p, ∃ ys : List Str, x = .str a ∧ xs = [.ref p] ∧ (SqL K H p (ys.map V.str) ∨ SqT K H p (ys.map V.str)) ∧ (ys.map (·.length)).sum + ys.length * a.length ≤ 16777216 ∧ Q (.str (Txt.join a ys)) H
theorem pe_joinK {X : Cx} {K : PySem.W.Frag} {o e : Expr} {to te : TE} {apos pos : Pos} (hk : X.K = K) (ho : PE X o to) (he : PE X e te) (hs : starEach [e] X.env = [(false, eval e X.env)] := by rfl) (hbase : attributeBase o "join" X.env (eval o X.env) = eval o X.env := by rfl) (hline : (apos.endLine == pos.line) = true := by rfl) :
    PE X (.Call (.Attribute o "join" apos) [e] [] pos) (tM1 (rJoin K) to te) := hk ▸ pe_join ho he hs hbase hline
theorem rd_m1 {r : V → List V → Hp → VK → Prop} {to te : TE} {σ : St} {H : Hp} {Q : VK} (h : to σ H fun x H1 => (∃ a, x = .str a) ∧ te σ H1 fun y H2 => r x [y] H2 Q) : tM1 r to te σ H Q := h
end L2.Px
set_option Elab.async false
set_option linter.all false
set_option maxRecDepth 100000
set_option maxHeartbeats 1000000
namespace L2.Px
open PySem PySem.Spec PyProof.Rows StX TL
/-- the text of steps ss stands at a -/
def TX (K : PySem.W.Frag) (CT CP : Addr) (H : Hp) (a : Addr) (ss : List Stp) : Prop := ∃ t, TextAt K CT CP H a t ∧ t.ss = ss
/-- a list or a tuple of the steps ss -/
def SX (K : PySem.W.Frag) (H : Hp) (a : Addr) (ss : List Stp) : Prop := ∃ ms, (SqT K H a ms ∨ H a = some (.lst ms)) ∧ StepsAt K H ms ss
/-- a tuple of the steps ss -/
def TS' (K : PySem.W.Frag) (H : Hp) (a : Addr) (ss : List Stp) : Prop := ∃ ms, SqT K H a ms ∧ StepsAt K H ms ss
def natV (L : List Nat) : List V := L.map fun m => V.int (m : Nat)
def kat (ss : List Stp) (p : Nat) : Nat := (ks ss)[p]?.getD 0
def lat (ss : List Stp) (k : Nat) : Nat := (tyL ss)[k]?.getD 0
section
variable {K : PySem.W.Frag} {CT CP : Addr} {H H' : Hp} {Q : VK} {E : XK} {a b r : Addr} {ss tt : List Stp} {i j : Int} {v : V} {o : HO} {xs : List V} {L : List Nat}
theorem TX.kp (h : TX K CT CP H a ss) (e : Kp H H') : TX K CT CP H' a ss := let ⟨t, T, q⟩ := h; ⟨t, T.kp e, q⟩
theorem TX.ok (h : TX K CT CP H a ss) : okFrom 0 ss := let ⟨t, T, q⟩ := h; q ▸ T.ok
theorem TX.few (h : TX K CT CP H a ss) : ss.length ≤ 30 := let ⟨t, T, q⟩ := h; q ▸ T.few
theorem TX.insA (h : TX K CT CP H a ss) : InsA H a CT := let ⟨t, T, q⟩ := h; T.insA
theorem TX.insM {m : Str} (h : TX K CT CP H a ss) (hm : m ≠ "total" ∧ m ≠ "parts" ∧ m ≠ "typed" ∧ m ≠ "made" := by decide +kernel) : InsM H a CT m := let ⟨t, T, q⟩ := h; T.insM hm
theorem SX.kp (h : SX K H a ss) (e : Kp H H') : SX K H' a ss := let ⟨ms, q, s⟩ := h; ⟨ms, q.elim (fun q => .inl (e.tup q)) (fun q => .inr (e _ _ (nr_refs s.refs) q)), s.kp e⟩
theorem TS'.kp (h : TS' K H a ss) (e : Kp H H') : TS' K H' a ss := let ⟨ms, q, s⟩ := h; ⟨ms, e.tup q, s.kp e⟩
theorem TS'.sx (h : TS' K H a ss) : SX K H a ss := let ⟨ms, q, s⟩ := h; ⟨ms, .inl q, s⟩
theorem nr_natV {L : List Nat} : ¬ isRow (.lst (natV L)) := nr_nats
theorem natV_len (L : List Nat) : (natV L).length = L.length := List.length_map _
theorem tyL_600 (h : TX K CT CP H a ss) : (tyL ss).length ≤ 600 := by have := tyL_small h.ok; have := h.few; omega
theorem sl : sizeLine = 16777216 := sizeLine_eq
theorem kat_some (ok : okFrom 0 ss) {p : Nat} (h : p < sz ss) : (ks ss)[p]? = some (kat ss p) := by
  unfold kat; rw [List.getElem?_eq_getElem (by rw [ks_len ok]; exact h)]; rfl
theorem kat_lt (ok : okFrom 0 ss) {p : Nat} (h : p < sz ss) : kat ss p < (tyL ss).length := ks_lt (List.mem_of_getElem? (kat_some ok h))
theorem lat_some {k : Nat} (h : k < (tyL ss).length) : (tyL ss)[k]? = some (lat ss k) := by
  unfold lat; rw [List.getElem?_eq_getElem h]; rfl
theorem lat_let (ok : okFrom 0 ss) {k : Nat} (h : k < (tyL ss).length) : 97 ≤ lat ss k ∧ lat ss k ≤ 122 := letters_ok ok _ (List.mem_of_getElem? (lat_some h))
theorem new_of {P : Addr → Hp → Prop} (q : ∀ p H', Same H H' → H' p = some o → P p H') : ∀ p, H p = none → P p (upd H p o) := fun p hp => q p _ (Same.new (Same.refl _) hp) upd_same
theorem Same.lk (h : H a = some o) (s : Same H H') : H' a = some o := s _ _ h
theorem rd_taken (row : RowAt K H r) (h1 : 1 ≤ i) (h2 : i < 1073741824) (q : ∀ (n : Nat) H', (n : Int) < i → Kp H H' → RowAt K H' r → Q (.int n) H') : sp_x_law_taken K [.ref r, .int i] H Q E :=
  ⟨r, i.toNat, by rw [Int.toNat_of_nonneg (by omega)], row, by omega, by omega, fun n H' hn k w => q n H' (by omega) k w⟩
theorem rd_word (row : RowAt K H r) (h1 : 1 ≤ i) (h2 : i ≤ 20) (q : ∀ (w : Str) H', okWord w i.toNat → Kp H H' → RowAt K H' r → Q (.str w) H') : sp_x_law_word K [.ref r, .int i] H Q E :=
  ⟨r, i.toNat, by rw [Int.toNat_of_nonneg (by omega)], row, by omega, by omega, q⟩
theorem rd_stepsL (row : RowAt K H r) (h1 : 0 ≤ i) (h2 : i ≤ 30) (h3 : 20 ≤ j) (h4 : j ≤ 1000)
    (q : ∀ p ss H', Kp H H' → RowAt K H' r → TS' K H' p ss → okFrom 0 ss → (ss.length : Int) ≤ i → (sz ss : Int) ≤ j → (1 ≤ i → 1 ≤ sz ss) → Q (.ref p) H') : sp_x_law_steps K [.ref r, .int i, .int j] H Q E :=
  ⟨r, i.toNat, j.toNat, by rw [Int.toNat_of_nonneg (by omega), Int.toNat_of_nonneg (by omega)], row, by omega, by omega, by omega,
    fun p ms ss H' k w a b c d e f _ => q p ss H' k w ⟨ms, a, b⟩ c (by omega) (by omega) (fun z => f (by omega) (by omega))⟩
theorem rd_stepsQ (row : RowAt K H r) (h1 : 0 ≤ i) (h2 : i ≤ 30) (h3 : 20 ≤ j) (h4 : j ≤ 1000)
    (q : ∀ p ss H', Kp H H' → RowAt K H' r → TS' K H' p ss → okFrom 0 ss → (ss.length : Int) ≤ i → (sz ss : Int) ≤ j → (1 ≤ i → 1 ≤ sz ss) → okLs ss → Q (.ref p) H') : sp_x_law_steps K [.ref r, .int i, .int j] H Q E :=
  ⟨r, i.toNat, j.toNat, by rw [Int.toNat_of_nonneg (by omega), Int.toNat_of_nonneg (by omega)], row, by omega, by omega, by omega,
    fun p ms ss H' k w a b c d e f g => q p ss H' k w ⟨ms, a, b⟩ c (by omega) (by omega) (fun z => f (by omega) (by omega)) g⟩
theorem rd_listS (h : TS' K H a ss) (q : ∀ p H', Same H H' → SX K H' p ss → Q (.ref p) H') : rListA K [.ref a] H Q := by
  obtain ⟨ms, q1, st⟩ := h
  exact rd_list_tup q1 fun l hl => q l _ (Same.new (Same.refl _) hl) ⟨ms, .inr upd_same, st.mono (Same.new (Same.refl _) hl)⟩
theorem rd_ofSteps (h : SX K H a ss) (ok : okFrom 0 ss) (few : ss.length ≤ 30) (q : ∀ p H', Same H H' → TX K CT CP H' p ss → Q (.ref p) H') : sp_Text_of_steps K CT CP [.ref CT, .ref a] H Q E := by
  obtain ⟨ms, q1, st⟩ := h
  exact ⟨a, ms, ss, rfl, q1.elim .inl (fun z => .inr (SqL.of z)), st, ok, few, fun H' x t S T e => q x H' S ⟨t, T, e⟩⟩
theorem rd_pSize (h : TX K CT CP H a ss) (q : Q (.int (sz ss : Nat)) H) : ∃ a' dx fs, V.ref a = .ref a' ∧ H a' = some (.ins CT dx fs) ∧ sp_Text_size K CT CP [.ref a'] H Q E := by
  obtain ⟨t, T, rfl⟩ := h
  exact rd_prop_at T.insA ⟨a, t, rfl, T, q⟩
theorem rd_pTyped (h : TX K CT CP H a ss) (q : Q (.str (mkS (tyL ss))) H) : ∃ a' dx fs, V.ref a = .ref a' ∧ H a' = some (.ins CT dx fs) ∧ sp_Text_typed_keys K CT CP [.ref a'] H Q E := by
  obtain ⟨t, T, rfl⟩ := h
  exact rd_prop_at T.insA ⟨a, t, rfl, T, q⟩
theorem rd_pSteps (h : TX K CT CP H a ss) (q : ∀ p, TS' K H p ss → Q (.ref p) H) : ∃ a' dx fs, V.ref a = .ref a' ∧ H a' = some (.ins CT dx fs) ∧ sp_Text_steps K CT CP [.ref a'] H Q E := by
  obtain ⟨t, T, rfl⟩ := h
  exact rd_prop_at T.insA ⟨a, t, rfl, T, q _ ⟨t.ms, T.made, T.stp⟩⟩
theorem rd_keyOf (h : TX K CT CP H a ss) (h0 : 0 ≤ i) (h1 : i < sz ss) (q : Q (.int (kat ss i.toNat : Nat)) H) : sp_Text_key_of K CT CP [.ref a, .int i] H Q E := by
  have ok := h.ok
  obtain ⟨t, T, rfl⟩ := h
  exact ⟨a, t, i.toNat, _, by rw [Int.toNat_of_nonneg h0], T, kat_some ok (by omega), q⟩
theorem rd_oCall (h : TX K CT CP H a ss) (h0 : 0 ≤ i) (h1 : i < sz ss) (q : Q (.int (kat ss i.toNat : Nat)) H) : InsA H a CT ∧ sp_Text_call K CT CP [.ref a, .int i] H Q E := ⟨h.insA, rd_keyOf h h0 h1 q⟩
theorem rd_oItem (h : TX K CT CP H a ss) (h0 : 0 ≤ i) (h1 : i < sz ss) (q : Q (.str ⟨#[lat ss (kat ss i.toNat)]⟩) H) : ∃ a', V.ref a = .ref a' ∧ InsA H a' CT ∧ sp_Text_getitem K CT CP [.ref a, .int i] H Q E := by
  have ok := h.ok
  have hi : i.toNat < sz ss := by omega
  have hk := kat_lt ok hi
  obtain ⟨t, T, rfl⟩ := h
  exact ⟨a, rfl, T.insA, a, t, i.toNat, _, _, by rw [Int.toNat_of_nonneg h0], T, kat_some ok hi, lat_some hk, q⟩
theorem join_ok (h : TX K CT CP H a ss) (g : TX K CT CP H' b tt) (hz : sz ss + sz tt ≤ 1000000000000000000) : okFrom 0 (joinS ss tt) := ok_join h.ok g.ok hz
theorem rd_opAdd (h : TX K CT CP H a ss) (g : TX K CT CP H b tt) (hz : sz ss + sz tt ≤ 1000000000000000000) (hl : ss.length + tt.length ≤ 30)
    (q : ∀ p H', Same H H' → TX K CT CP H' p (joinS ss tt) → Q (.ref p) H') : rOwn CT (sp_Text_add K CT CP) E (.ref a) (.ref b) H Q := by
  have j := join_ok h g hz
  have ia := h.insA
  have ib := g.insA
  obtain ⟨t, T, rfl⟩ := h
  obtain ⟨u, U, rfl⟩ := g
  exact rd_own ia ib ⟨a, b, t, u, rfl, T, U, j, by rw [join_length]; exact hl, fun H' x z S Z e => q x H' S ⟨z, Z, e⟩⟩
theorem rd_opMul (h : TX K CT CP H a ss) (h1 : 1 ≤ i) (h2 : i ≤ 1000000000) (hz : (sz ss : Int) * i ≤ 1000000000000000000) (hl : ss.length + 1 ≤ 30)
    (q : ∀ p H', Same H H' → TX K CT CP H' p (mulS ss i.toNat) → Q (.ref p) H') : rOwnI CT (sp_Text_mul K CT CP) E (.ref a) (.int i) H Q := by
  have ok := h.ok
  have ia := h.insA
  obtain ⟨n, rfl⟩ : ∃ n : Nat, i = n := ⟨i.toNat, by omega⟩
  rw [Int.toNat_natCast] at q
  obtain ⟨t, T, rfl⟩ := h
  refine rd_ownI ia ⟨a, t, n, rfl, T, by omega, by omega, ok_mul ok (by omega) (by omega) (by rw [← Int.natCast_mul] at hz; omega), Nat.le_trans (mul_length _ _) hl, fun H' x z S Z e => q x H' S ⟨z, Z, e⟩⟩
theorem rd_mRetyped {k c : Nat} (h : TX K CT CP H a ss) (hk : k < (tyL ss).length) (hc : 97 ≤ c ∧ c ≤ 122) (q : ∀ p H', Same H H' → TX K CT CP H' p (rt k c 0 ss) → Q (.ref p) H') : sp_Text_retyped K CT CP [.ref a, .int (k : Nat), .str ⟨#[c]⟩] H Q E := by
  obtain ⟨t, T, rfl⟩ := h
  exact ⟨a, t, k, c, rfl, T, hk, hc.1, hc.2, fun H' x z S Z e => q x H' S ⟨z, Z, e⟩⟩
theorem rd_opEq (h : TX K CT CP H a ss) (g : TX K CT CP H b tt) (q : Q (.bl (decide (ss = tt))) H) : rEqO K CT (sp_Text_eq K CT CP) E (.ref a) (.ref b) H Q := by
  have ia := h.insA
  have ib := g.insA
  obtain ⟨t, T, rfl⟩ := h
  obtain ⟨u, U, rfl⟩ := g
  exact rd_eqO ia ib ⟨a, b, t, rfl, T, .inl ⟨u, U, q⟩⟩
theorem rd_opEqT (h : TX K CT CP H a ss) (g : TS' K H b tt) (q : Q (.bl false) H) : rEqO K CT (sp_Text_eq K CT CP) E (.ref a) (.ref b) H Q := by
  have ia := h.insA
  obtain ⟨t, T, rfl⟩ := h
  obtain ⟨ms, g, _⟩ := g
  exact rd_eqOT ia g ⟨a, b, t, rfl, T, .inr ⟨ms, g, q⟩⟩
theorem rd_opNe (h : TX K CT CP H a ss) (g : TX K CT CP H b tt) (q : Q (.bl (!decide (ss = tt))) H) : rNeO CT (sp_Text_eq K CT CP) E (.ref a) (.ref b) H Q := by
  have ia := h.insA
  have ib := g.insA
  obtain ⟨t, T, rfl⟩ := h
  obtain ⟨u, U, rfl⟩ := g
  exact rd_neO ia ib ⟨a, b, t, rfl, T, .inl ⟨u, U, _, rfl, q⟩⟩
theorem rd_andrfl {α : Type} {x : α} {A : Prop} (h : A) : x = x ∧ A := ⟨rfl, h⟩
theorem rd_mTx {m : Str} {ta : TA} {sp : Sp} {σ : St} (h : TX K CT CP H a ss) (hm : m ≠ "total" ∧ m ≠ "parts" ∧ m ≠ "typed" ∧ m ≠ "made") (q : ta σ H fun vs H2 => sp (.ref a :: vs) H2 Q E) : ∃ a', V.ref a = .ref a' ∧ InsM H a' CT m ∧ ta σ H fun vs H2 => sp (V.ref a :: vs) H2 Q E := rd_m_at (h.insM hm) q
theorem rd_lenN {l : Addr} (h : H l = some (.lst (natV L))) (q : Q (.int (L.length : Nat)) H) : rLenA K [.ref l] H Q := rd_len_lst (SqL.of h) (by rw [natV_len]; exact q)
theorem rd_lenL {l : Addr} (h : H l = some (.lst xs)) (q : Q (.int (xs.length : Nat)) H) : rLenA K [.ref l] H Q := rd_len_lst (SqL.of h) q
theorem rd_lenS {y : List Nat} (hz : y.length ≤ 16777216) (q : Q (.int (y.length : Nat)) H) : rLenA K [.str (mkS y)] H Q := rd_len_str (by rw [mkS_len, sizeLine_eq]; exact hz) (by rw [mkS_len]; exact q)
theorem rd_ixN {l : Addr} (h : H l = some (.lst (natV L))) (h0 : 0 ≤ i) (h1 : i < L.length) (q : Q (.int (L[i.toNat]?.getD 0 : Nat)) H) : rIx K (.ref l) (.int i) H Q := by
  obtain ⟨n, rfl⟩ : ∃ n : Nat, i = n := ⟨i.toNat, by omega⟩
  rw [Int.toNat_natCast] at q
  refine rd_ixLn (SqL.of h) ?_ q
  unfold natV
  rw [List.getElem?_map, List.getElem?_eq_getElem (by omega)]
  rfl
theorem rd_ixC {y : List Nat} (hz : y.length ≤ 16777216) (h0 : 0 ≤ i) (h1 : i < y.length) (q : Q (.str ⟨#[y[i.toNat]?.getD 0]⟩) H) : rIx K (.str (mkS y)) (.int i) H Q := by
  obtain ⟨n, rfl⟩ : ∃ n : Nat, i = n := ⟨i.toNat, by omega⟩
  rw [Int.toNat_natCast] at q
  refine rd_ixSn (by rw [mkS_len, sizeLine_eq]; exact hz) ?_ q
  rw [tl_mkS, List.getElem?_eq_getElem (by omega)]
  rfl
theorem rd_eqTT (h : TS' K H a ss) (g : TS' K H b tt) (o1 : okFrom 0 ss) (o2 : okFrom 0 tt) (q : Q (.bl (decide (ss = tt))) H) : rEqA K (.ref a) (.ref b) H Q := by
  obtain ⟨ms, h1, st1⟩ := h
  obtain ⟨ns, h2, st2⟩ := g
  refine rd_eq_dat (.tup h1 st1.dp) (.tup h2 st2.dp) (steps_dok o1).shaped (steps_dok o2).shaped ?_
  simp only [PyData.eqv]
  rw [stDs_eq]
  exact q
theorem rd_neTT (h : TS' K H a ss) (g : TS' K H b tt) (o1 : okFrom 0 ss) (o2 : okFrom 0 tt) (q : Q (.bl (!decide (ss = tt))) H) : rNeA K (.ref a) (.ref b) H Q := by
  obtain ⟨ms, h1, st1⟩ := h
  obtain ⟨ns, h2, st2⟩ := g
  refine rd_ne_dat (.tup h1 st1.dp) (.tup h2 st2.dp) (steps_dok o1).shaped (steps_dok o2).shaped ?_
  simp only [PyData.eqv]
  rw [stDs_eq]
  exact q
theorem ts_nil {p : Addr} (e : H p = some (.tup [])) : TS' K H p [] := ⟨[], SqT.of e, StepsAt.nil⟩
def sgn (c : Nat) : Str := ⟨#[c]⟩
theorem joinL_one : ∀ l : List Nat, joinL [] (l.map fun c => [c]) = l
  | [] => rfl
  | [_] => rfl
  | x :: y :: r => by
    show [x] ++ ([] ++ joinL [] ((y :: r).map fun c => [c])) = x :: y :: r
    rw [joinL_one (y :: r)]; rfl
theorem join_signs (l : List Nat) : Txt.join "" (l.map sgn) = mkS l := by
  apply ext_tl
  rw [join_eq, tl_join, List.map_map, show tl ("" : Str) = [] from rfl, tl_mkS]
  exact joinL_one l
theorem sum_ones (l : List Nat) : ((l.map sgn).map (·.length)).sum = l.length := by
  induction l with
  | nil => rfl
  | cons x l ih =>
    simp only [List.map_cons, List.sum_cons, List.length_cons] at ih ⊢
    rw [ih, show (sgn x).length = 1 from rfl]; omega
def sgV (l : List Nat) : List V := l.map fun c => V.str ⟨#[c]⟩
theorem rd_joinS {l : Addr} (h : H l = some (.lst (sgV L))) (hz : L.length ≤ 16777216) (q : Q (.str (mkS L)) H) : rJoin K (.str "") [.ref l] H Q := by
  refine ⟨"", l, L.map sgn, rfl, rfl, .inl (SqL.of (by rw [h]; unfold sgV; rw [List.map_map]; rfl)), ?_, by rw [join_signs]; exact q⟩
  rw [sum_ones, show ("" : Str).length = 0 from rfl]; omega
theorem kp_natV {l : Addr} (h : H l = some (.lst (natV L))) (k : Kp H H') : H' l = some (.lst (natV L)) := k _ _ nr_natV h
theorem nr_sgV : ¬ isRow (.lst (sgV L)) := nr_vals fun v hv => by obtain ⟨i, _, rfl⟩ := List.mem_map.mp hv; rfl
theorem kp_sgV {l : Addr} (h : H l = some (.lst (sgV L))) (k : Kp H H') : H' l = some (.lst (sgV L)) := k _ _ nr_sgV h
theorem dp_natV {l : Addr} (h : H l = some (.lst (natV L))) : Dp K H (.ref l) (.list (L.map fun m => PyData.int (m : Nat))) := .lst (SqL.of h) dp_nats
theorem nat_eqv : ∀ a b : List Nat, PyData.eqvAll (a.map fun m => PyData.int (m : Nat)) (b.map fun m => PyData.int (m : Nat)) = decide (a = b)
  | [], [] => by simp [PyData.eqvAll]
  | [], _ :: _ => by simp [PyData.eqvAll]
  | _ :: _, [] => by simp [PyData.eqvAll]
  | x :: a, y :: b => by
    simp only [List.map_cons, PyData.eqvAll, nat_eqv a b, PyData.eqv]
    by_cases h : x = y <;> by_cases h2 : a = b <;> simp [h, h2]
    omega
theorem rd_neNN {l m : Addr} {M : List Nat} (h : H l = some (.lst (natV L))) (g : H m = some (.lst (natV M))) (q : Q (.bl (!decide (L = M))) H) : rNeA K (.ref l) (.ref m) H Q :=
  rd_ne_dat (dp_natV h) (dp_natV g) (nats_dok.shaped (by decide)) (nats_dok.shaped (by decide)) (by simp only [PyData.eqv]; rw [nat_eqv]; exact q)
theorem rd_eqNN {l m : Addr} {M : List Nat} (h : H l = some (.lst (natV L))) (g : H m = some (.lst (natV M))) (q : Q (.bl (decide (L = M))) H) : rEqA K (.ref l) (.ref m) H Q :=
  rd_eq_dat (dp_natV h) (dp_natV g) (nats_dok.shaped (by decide)) (nats_dok.shaped (by decide)) (by simp only [PyData.eqv]; rw [nat_eqv]; exact q)
/-- the letters of all places -/
def ls (ss : List Stp) : List Nat := (ks ss).map (lat ss)
/-- a new object o of n items -/
def rNew (n : Nat) (o : HO) (H1 : Hp) (Q : VK) : Prop := n ≤ sizeLine ∧ ∀ p, H1 p = none → Q (.ref p) (upd H1 p o)
theorem rd_tupN {t : TA} {σ : St} (h : t σ H fun xs H1 => rNew xs.length (.tup xs) H1 Q) : tTup t σ H Q := h
theorem rd_lstN {t : TA} {σ : St} (h : t σ H fun xs H1 => rNew xs.length (.lst xs) H1 Q) : tLst t σ H Q := h
theorem rd_new {n : Nat} (hz : n ≤ sizeLine) (q : ∀ p H', Same H H' → H' p = some o → H p = none → Q (.ref p) H') : rNew n o H Q := ⟨hz, fun p hp => q p _ (Same.new (Same.refl _) hp) upd_same hp⟩
theorem rd_nameE {n : Nat} {σ σ' : St} {R : St → Hp → Prop} (e : σ.set n (some v) = σ') (h : R σ' H) : gName n v σ H R := by subst e; exact h
theorem rd_exStr {x : Str} {A : Prop} (h : A) : (∃ a, V.str x = .str a) ∧ A := ⟨⟨x, rfl⟩, h⟩
theorem rd_iNat {l : Addr} {A : Prop} (h : H l = some (.lst (natV L))) (q : A) : (∃ xs, SqL K H l xs) ∧ A := ⟨⟨_, SqL.of h⟩, q⟩
theorem rd_startE {N : List Str} {vs : List V} {σ' : St} {D : Ends} {t : TS} (e : start N vs = σ') (h : t D σ' H) : t D (start N vs) H := by subst e; exact h
end
end L2.Px
set_option Elab.async false
set_option linter.all false
set_option maxRecDepth 100000
set_option maxHeartbeats 1000000
namespace L2.Px
open PySem PySem.Spec PyProof.Rows StX ClX
section
variable {K : PySem.W.Frag} {h : Heap} {mg : Str → Option Value} {x m qual : Str} {st : Stmt} {ps : List Str} {C D f p g : Addr} {oc kV dc pm cd ct mc : Value} {od an : Option Addr} {sl : Array (Option Value)} {pv : Str} {rest : List Value}
/-- how a def binds n plain arguments -/
def BF (x qual : Str) (st : Stmt) (ps : List Str) : Prop := ∀ (kV doc pm : Value) (an : Option Addr) (cdv ct : Value) (us : List Value), us.length = ps.length → bindArgs (PySem.W.fnOf x qual (defArgs st) (defBody st) (defScope st) .none kV doc pm an cdv ct) ⟨us, []⟩ = pure (ps.zip us)
def BFS (x qual : Str) (st : Stmt) (ps : List Str) (pv : Str) : Prop := ∀ (kV doc pm : Value) (an : Option Addr) (cdv ct : Value) (us rest : List Value), us.length = ps.length → bindArgs (PySem.W.fnOf x qual (defArgs st) (defBody st) (defScope st) .none kV doc pm an cdv ct) ⟨us ++ rest, []⟩ = (newTuple rest >>= fun t => pure (ps.zip us ++ [(pv, t)]))
/-- the def object at f, as K has it -/
def AtF (K : PySem.W.Frag) (x qual : Str) (st : Stmt) (f : Addr) : Prop := ∃ oc od kV dc pm an cd ct sl, K.lookup f = some ⟨oc, od, .func (PySem.W.fnOf x qual (defArgs st) (defBody st) (defScope st) .none kV dc pm an cd ct), sl⟩ ∧ PySem.W.codeIn K cd qual = true
theorem atF (l : K.lookup f = some ⟨oc, od, .func (PySem.W.fnOf x qual (defArgs st) (defBody st) (defScope st) .none kV dc pm an cd ct), sl⟩) (c : PySem.W.codeIn K cd qual = true) : AtF K x qual st f := ⟨_, _, _, _, _, _, _, _, _, l, c⟩
theorem AtF.fun (a : AtF K x qual st f) (k : PySem.W.keepIn K (.ref f) = true) : ∃ fd, Fun K x qual st f fd := let ⟨_, _, _, _, _, _, _, _, _, l, c⟩ := a; ⟨_, fun_mk (st := st) l c k⟩
theorem defG_mk (X : K.In h) (G : h.Ns mainGlobals mg) (a : PySem.W.nsIn K mainGlobals x = some (some (.ref f))) (l : AtF K x x st f) (k : PySem.W.keepIn K (.ref f) = true) (b : BF x x st ps) : DefG K mg x st ps := by
  obtain ⟨fd, F⟩ := l.fun k
  exact ⟨f, fd, F, PySem.W.mg_of X G a, F.binds b⟩
theorem defM_mk (at_ : PySem.W.findIn K (.ref C) m = some (some (.ref f))) (fn : PySem.W.isFn K (.ref f) = true) (l : AtF K m qual st f) (k : PySem.W.keepIn K (.ref f) = true) (b : BF m qual st ps) : DefM K C m qual st ps := by
  obtain ⟨fd, F⟩ := l.fun k
  exact ⟨f, fd, F, ⟨at_, fn, k⟩, F.binds b⟩
theorem defX_mk {R : Addr → Prop} (r : R f) (l : AtF K m qual st f) (k : PySem.W.keepIn K (.ref f) = true) (b : BF m qual st ps) : DefX K R m qual st ps := by
  obtain ⟨fd, F⟩ := l.fun k
  exact ⟨f, fd, F, r, F.binds b⟩
theorem defP_mk (at_ : PySem.W.findIn K (.ref C) m = some (some (.ref p))) (get : PySem.W.specialIn K (.ref p) "__get__" = some (some (.builtin "property.__get__"))) (tak : PySem.W.takesIn K (.ref p) = some true) (rc : PySem.W.recIn K p "property" = some (.ref g :: rest))
    (l : AtF K m qual st g) (k : PySem.W.keepIn K (.ref g) = true) (b : BF m qual st ["self"]) : DefP K C m qual st := by
  obtain ⟨fd, F⟩ := l.fun k
  exact ⟨p, g, fd, F, ⟨at_, get, tak, rest, rc⟩, F.binds b⟩
theorem defC_mk (rd : PySem.W.readsIn K C mc = true) (ga : PySem.W.specialIn K (.ref C) "__getattribute__" = some (some (.builtin "type.__getattribute__"))) (at_ : PySem.W.findCls K (.ref C) mc m = some (.get (.builtin "classmethod.__get__") (.ref p) .none (.ref C)))
    (rc : PySem.W.recIn K p "classmethod" = some (.ref g :: rest)) (fi : PySem.W.fnIn K g = true) (l : AtF K m qual st g) (k : PySem.W.keepIn K (.ref g) = true) (b : BF m qual st ps) : DefC K C m qual st ps := by
  obtain ⟨fd, F⟩ := l.fun k
  exact ⟨mc, p, g, fd, F, ⟨rd, ga⟩, ⟨at_, ⟨rest, rc⟩, fi⟩, F.binds b⟩
theorem defK_mk (mk : PySem.W.makesIn K C = true) (at_ : PySem.W.findIn K (.ref C) "__init__" = some (some (.ref f))) (fn : PySem.W.isFn K (.ref f) = true) (kc : PySem.W.keepIn K (.ref C) = true) (l : AtF K "__init__" qual st f) (k : PySem.W.keepIn K (.ref f) = true) (b : BF "__init__" qual st ps) : DefK K C qual st ps := by
  obtain ⟨fd, F⟩ := l.fun k
  exact ⟨f, fd, F, ⟨mk, at_, fn, kc⟩, F.binds b⟩
theorem defKS_mk (mk : PySem.W.makesIn K C = true) (at_ : PySem.W.findIn K (.ref C) "__init__" = some (some (.ref f))) (fn : PySem.W.isFn K (.ref f) = true) (kc : PySem.W.keepIn K (.ref C) = true) (l : AtF K "__init__" qual st f) (k : PySem.W.keepIn K (.ref f) = true) (b : BFS "__init__" qual st ps pv) : DefKS K C qual st ps pv := by
  obtain ⟨oc, od, kV, dc, pm, an, cd, ct, sl, l, c⟩ := l
  exact ⟨f, _, fun_mk (st := st) l c k, ⟨mk, at_, fn, kc⟩, fun us rest hl => b kV dc pm an cd ct us rest hl⟩
theorem loose_int {p : Program} {lv : List (Str × PySem.W.WData)} {i : Int} (XL : PySem.W.XL p lv mg h) (hm : (x, PySem.W.WData.int i) ∈ lv) : ∃ t, mg x = some (.int i t) := by
  obtain ⟨v, e, r⟩ := XL.2.val _ hm
  cases r
  exact ⟨_, e⟩
theorem const_int {i : Int} {t : Tok} (X : K.In h) (G : h.Ns mainGlobals mg) (a : PySem.W.nsIn K mainGlobals x = some (some (.int i t))) : ∃ t, mg x = some (.int i t) := ⟨t, PySem.W.mg_of X G a⟩
theorem const_str {z : Str} {t : Tok} (X : K.In h) (G : h.Ns mainGlobals mg) (a : PySem.W.nsIn K mainGlobals x = some (some (.str z t))) : ∃ t, mg x = some (.str z t) := ⟨t, PySem.W.mg_of X G a⟩
end
end L2.Px
set_option Elab.async false
set_option linter.all false
set_option maxRecDepth 100000
set_option maxHeartbeats 2000000
namespace L2.Px
open PySem PySem.Spec PyProof.Rows StX LamX
structure Kl (T : List (Addr × Str)) (H H' : Hp) : Prop where
  keep : ∀ b o, ¬ isRow o → (∀ ps, o ≠ .tbl ps) → H b = some o → H' b = some o
  rows : ∀ (b sa : Addr) (i s e : Int), H b = some (.lst [.ref sa, .int i, .int s, .int e]) → ∃ i' s' e' : Int, H' b = some (.lst [.ref sa, .int i', .int s', .int e'])
  tabs : Tabs T H → Tabs T H'
section
variable {T : List (Addr × Str)} {H H' H1 : Hp}
theorem Kl.refl : Kl T H H := ⟨fun _ _ _ _ h => h, fun _ _ _ _ _ h => ⟨_, _, _, h⟩, id⟩
theorem Kl.trans (a : Kl T H H1) (b : Kl T H1 H') : Kl T H H' := ⟨fun c o hc hn h => b.keep c o hc hn (a.keep c o hc hn h), fun c sa i s e h => let ⟨i', s', e', h'⟩ := a.rows c sa i s e h; b.rows c sa i' s' e' h', fun t => b.tabs (a.tabs t)⟩
theorem tabS_kp {P : Addr} {q : Str} (t : TabS H P q) (e : Kp H H') : TabS H' P q :=
  let ⟨ps, a, b, d⟩ := t
  ⟨ps, e _ _ id a, b, fun pos cv hc => let ⟨c, x, y⟩ := d pos cv hc; ⟨c, x, e _ _ id y⟩⟩
theorem Kl.kp (e : Kp H H') : Kl T H H' := ⟨fun b o hr _ h => e b o hr h, e.rows, fun t p hp => tabS_kp (t p hp) e⟩
theorem Kl.same (e : Same H H') : Kl T H H' := .kp (.same e)
theorem Kl.ext (e : ExtN H H') (t : Tabs T H') : Kl T H H' := ⟨fun b o _ hn h => e b o h hn, fun b sa i s n h => ⟨_, _, _, e _ _ h fun ps z => nomatch z⟩, fun _ => t⟩
theorem Kl.tup {K : PySem.W.Frag} {a : Addr} {xs : List V} (e : Kl T H H') (h : SqT K H a xs) : SqT K H' a xs := by
  rcases h with (h | ⟨o, h⟩) | h
  · exact .inl (.inl (e.keep _ _ nr_tup (fun ps z => nomatch z) h))
  · exact .inl (.inr ⟨o, e.keep _ _ nr_frz (fun ps z => nomatch z) h⟩)
  · exact .inr h
theorem Kl.lst {K : PySem.W.Frag} {a : Addr} {xs : List V} (e : Kl T H H') (n : ¬ isRow (.lst xs)) (h : SqL K H a xs) : SqL K H' a xs := by
  rcases h with (h | ⟨o, h⟩) | h
  · exact .inl (.inl (e.keep _ _ n (fun ps z => nomatch z) h))
  · exact .inl (.inr ⟨o, e.keep _ _ nr_frz (fun ps z => nomatch z) h⟩)
  · exact .inr h
end
/-- all but tables of code -/
structure Kx (T : List (Addr × Str)) (H H' : Hp) : Prop where
  keep : ∀ b o, (∀ ps, o ≠ .tbl ps) → H b = some o → H' b = some o
  tabs : Tabs T H → Tabs T H'
section
variable {T : List (Addr × Str)} {H H' H1 : Hp}
theorem Kx.refl : Kx T H H := ⟨fun _ _ _ h => h, id⟩
theorem Kx.trans (a : Kx T H H1) (b : Kx T H1 H') : Kx T H H' := ⟨fun c o hn h => b.keep c o hn (a.keep c o hn h), fun t => b.tabs (a.tabs t)⟩
theorem Kx.kl (e : Kx T H H') : Kl T H H' := by
  refine ⟨fun b o hr hn h => e.keep b o hn h, fun b sa i s n h => ?_, e.tabs⟩
  exact ⟨i, s, n, e.keep _ _ (fun ps z => nomatch z) h⟩
theorem Kx.same (e : Same H H') : Kx T H H' := ⟨fun b o _ h => e b o h, (Kl.same e).tabs⟩
theorem Kx.ext (e : ExtN H H') (t : Tabs T H') : Kx T H H' := ⟨fun b o hn h => e b o h hn, fun _ => t⟩
theorem Kx.tup {K : PySem.W.Frag} {a : Addr} {xs : List V} (e : Kx T H H') (h : SqT K H a xs) : SqT K H' a xs := e.kl.tup h
theorem Kx.lst {K : PySem.W.Frag} {a : Addr} {xs : List V} (e : Kx T H H') (h : SqL K H a xs) : SqL K H' a xs := by
  rcases h with (h | ⟨o, h⟩) | h
  · exact .inl (.inl (e.keep _ _ (fun ps z => nomatch z) h))
  · exact .inl (.inr ⟨o, e.keep _ _ (fun ps z => nomatch z) h⟩)
  · exact .inr h
theorem Kx.row {K : PySem.W.Frag} {r : Addr} (e : Kx T H H') (h : RowAt K H r) : RowAt K H' r := let ⟨sa, sc, i, s, n, a, b⟩ := h.ex; ⟨sa, sc, i, s, n, e.keep _ _ (fun ps z => nomatch z) a, e.lst b⟩
end
structure FunC (K : PySem.W.Frag) (x qual : Str) (st : Stmt) (c f : Addr) (fd : FuncData) : Prop where
  ex : ∃ (oc : Value) (od : Option Addr) (kV doc pm : Value) (an : Option Addr) (ct : Value) (osl : Array (Option Value)),
    fd = PySem.W.fnOf x qual (defArgs st) (defBody st) (defScope st) .none kV doc pm an (.ref c) ct ∧ K.lookup f = some ⟨oc, od, .func fd, osl⟩ ∧ PySem.W.codeIn K (.ref c) qual = true
  kp : PySem.W.keepIn K (.ref f) = true
theorem FunC.fn {K : PySem.W.Frag} {x qual : Str} {st : Stmt} {c f : Addr} {fd : FuncData} (F : FunC K x qual st c f fd) : Fun K x qual st f fd :=
  let ⟨oc, od, kV, doc, pm, an, ct, osl, e, l, h⟩ := F.ex
  ⟨⟨oc, od, kV, doc, pm, an, _, ct, osl, e, l, h⟩, F.kp⟩
section
variable {P : Program} {w : World} {K : PySem.W.Frag} {mg : Str → Option Value} {base : Heap}
theorem FunC.ok {x qual : Str} {st : Stmt} {c f : Addr} {fd : FuncData} {N ps : List Str} {k : Nat} {sp : Sp} (F : FunC K x qual st c f fd) (S : FnScope N ps (defScope st)) (len : ∀ vs H Q E, sp vs H Q E → vs.length = ps.length)
    (hbody : ∀ (A : Around) (outer : List Env) (s : Shared) (H : Hp) (vs : List V) (Q : VK) (E : XK), Room k (A.deeper (envOfC qual (defScope st) s.heap.objs.size f (.ref c))) → sp vs H Q E →
      ∃ t, PSs (cxOf CX0 P w K mg base N qual (defScope st) f (.ref c) A outer s H E).nox (defBody st) t ∧ t { nx := fun _ H' => Q .non H', rt := Q } (start N vs) H) : FnOk P w K mg base CX0 (k + 1) f fd ps sp := by
  obtain ⟨oc, od, kV, doc, pm, an, ct, osl, rfl, lk, hcd⟩ := F.ex
  refine fn_of lk hcd S len fun A outer s H vs Q E hr hsp => ?_
  obtain ⟨t, h, q⟩ := hbody A outer s H vs Q E hr hsp
  exact ⟨t, h.nox, q⟩
end
/-- a def of the top, its code object at c -/
def DefGC (K : PySem.W.Frag) (mg : Str → Option Value) (x : Str) (st : Stmt) (ps : List Str) (c : Addr) : Prop := ∃ f fd, FunC K x x st c f fd ∧ mg x = some (.ref f) ∧ Binds K fd ps []
section
variable {P : Program} {w : World} {K : PySem.W.Frag} {mg : Str → Option Value} {base : Heap} {k : Nat} {ps : List Str} {sp : Sp} {x : Str} {st : Stmt} {c : Addr}
theorem DefGC.ok {N : List Str} (D : DefGC K mg x st ps c) (S : FnScope N ps (defScope st)) (len : ∀ vs H Q E, sp vs H Q E → vs.length = ps.length)
    (hbody : ∀ (f : Addr) (A : Around) (outer : List Env) (s : Shared) (H : Hp) (vs : List V) (Q : VK) (E : XK), Room k (A.deeper (envOfC x (defScope st) s.heap.objs.size f (.ref c))) → sp vs H Q E →
      ∃ t, PSs (cxOf CX0 P w K mg base N x (defScope st) f (.ref c) A outer s H E).nox (defBody st) t ∧ t { nx := fun _ H' => Q .non H', rt := Q } (start N vs) H) : GOk P w K mg base CX0 (k + 1) x sp := by
  obtain ⟨f, fd, F, a, b⟩ := D
  exact ⟨f, FnOk.toR (F.ok S len fun A outer s H vs Q E hr h => hbody f A outer s H vs Q E hr h) b, a, F.kp⟩
theorem DefGC.g (D : DefGC K mg x st ps c) : DefG K mg x st ps := let ⟨f, fd, F, a, b⟩ := D; ⟨f, fd, F.fn, a, b⟩
end
def lamOb (q : Str) (params : Arguments) (body : Expr) (scope : Scope) (cl : List (Str × Addr)) (dV : Value) (f c' : Addr) : HO :=
  .ext fun h => ∃ doc pm ctv : Value, h.get? f = some (PySem.W.kdv_obj "<lambda>" q params (.expr body) scope cl dV doc pm c' ctv)
/-- its names: captured ones, globals, and parameters bs that the maker does not know -/
structure LamC (N : List Str) (sc scope : Scope) (bs : List Str) : Prop where
  kind : scope.kind = .function
  co : scope.isCoroutine = false
  gen : scope.isGenerator = false
  own : ∀ y ∈ scope.names, y.2 ≠ .cell ∧ (y.2 = .local → y.1 ∉ N)
  free : ∀ y ∈ scope.names, y.2 = .free → sc.names.lookup y.1 = some .cell ∨ sc.names.lookup y.1 = some .free
  par : ∀ y ∈ bs, scope.names.lookup y = some .local
def lamCB (N : List Str) (sc scope : Scope) (bs : List Str) : Bool :=
  decide (scope.kind = .function) && (!scope.isCoroutine && (!scope.isGenerator && ((scope.names.all fun y => !decide (y.2 = .cell) && ((!decide (y.2 = .local) || !decide (y.1 ∈ N)) && (!decide (y.2 = .free) || (decide (sc.names.lookup y.1 = some .cell) || decide (sc.names.lookup y.1 = some .free))))) && bs.all fun y => decide (scope.names.lookup y = some .local))))
theorem lamC_by {N : List Str} {sc scope : Scope} {bs : List Str} (h : lamCB N sc scope bs = true) : LamC N sc scope bs := by
  unfold lamCB at h
  simp only [Bool.and_eq_true, Bool.or_eq_true, Bool.not_eq_true', decide_eq_true_eq, decide_eq_false_iff_not, List.all_eq_true] at h
  obtain ⟨h1, h2, h3, h4, h5⟩ := h
  refine ⟨h1, h2, h3, fun y hy => ⟨(h4 y hy).1, fun e => ((h4 y hy).2.1).elim (fun z => absurd e z) id⟩, fun y hy e => ((h4 y hy).2.2).elim (fun z => absurd e z) id, h5⟩
/-- how it binds nothing: no parameter, or one with a default -/
def LamB (params : Arguments) (body : Expr) (scope : Scope) (dV : Value) (bs : List Str) (H : Hp) : Prop :=
  (dV = .none ∧ bs = [] ∧ ∀ (q : Str) (cl : List (Str × Addr)) (doc pm cv ctv : Value), bindArgs (PySem.W.kdv_fn "<lambda>" q params (.expr body) scope cl .none doc pm cv ctv) ⟨[], []⟩ = pure []) ∨
    ∃ (T : Addr) (v : V) (b : Str), dV = .ref T ∧ bs = [b] ∧ H T = some (.tup [v]) ∧ ∀ (q : Str) (cl : List (Str × Addr)) (doc pm cv ctv u : Value), ∃ kk, bindArgs (PySem.W.kdv_fn "<lambda>" q params (.expr body) scope cl (.ref T) doc pm cv ctv) ⟨[], []⟩ = seqItems? (.ref T) >>= kk ∧ kk (some #[u]) = pure [(b, u)]
/-- at f stands a lambda of X's def whose body reads as t -/
def IsLam (X : Cx) (k : Nat) (t : XK → TE) (f : Addr) (H : Hp) : Prop := ∃ (params : Arguments) (body : Expr) (scope : Scope) (dV : Value) (bs : List Str) (c' : Addr),
  LamC X.N X.env.scope scope bs ∧ H f = some (lamOb (X.env.qual ++ "<lambda>") params body scope (cloFrom X.env.cells scope.names []) dV f c') ∧ H c' = some (CodeO c' (X.env.qual ++ "<lambda>")) ∧ LamB params body scope dV bs H ∧
  ∀ (A : Around) (outer : List Env) (s : Shared) (H1 : Hp) (E : XK), Room k (A.deeper (lamEnv X scope s.heap.objs.size f c')) → PE (lamCx X A outer s H1 E scope f c') body (t E)
theorem IsLam.mono {X : Cx} {k : Nat} {t : XK → TE} {f : Addr} {H H' : Hp} (h : IsLam X k t f H) (e : ∀ b o, ¬ isRow o → (∀ ps, o ≠ .tbl ps) → H b = some o → H' b = some o) : IsLam X k t f H' := by
  obtain ⟨p, b, sc, dV, bs, c', l, h1, h2, h3, h4⟩ := h
  refine ⟨p, b, sc, dV, bs, c', l, e _ _ id (fun ps z => nomatch z) h1, e _ _ id (fun ps z => nomatch z) h2, ?_, h4⟩
  rcases h3 with h3 | ⟨T, v, y, a1, a2, a3, a4⟩
  · exact .inl h3
  · exact .inr ⟨T, v, y, a1, a2, e _ _ nr_tup (fun ps z => nomatch z) a3, a4⟩
theorem IsLam.kl {X : Cx} {k : Nat} {t : XK → TE} {f : Addr} {H H' : Hp} {T : List (Addr × Str)} (h : IsLam X k t f H) (e : Kl T H H') : IsLam X k t f H' := h.mono e.keep
theorem LamC.has {N : List Str} {X : Cx} {scope : Scope} {bs : List Str} (L : LamC N X.env.scope scope bs) (ok : X.Ok) : ∀ y ∈ scope.names, y.2 = .free → ∃ c, X.env.cells.lookup y.1 = some c := fun y hy e =>
  (L.free y hy e).elim (fun k => ok.has _ (.inl k)) fun k => ok.has _ (.inr k)
section
variable {X : Cx} {pins : List (Addr × Obj)} {σ : St} {H : Hp} {s : Shared}
theorem lam_ob {q : Str} {params : Arguments} {body : Expr} {scope : Scope} {cl : List (Str × Addr)} {dV doc pm ctv : Value} {c' : Addr} {t' : Nat} (I : Inv X pins σ H s) :
    Inv X pins σ (upd H s.heap.objs.size (lamOb q params body scope cl dV s.heap.objs.size c')) { s with heap := s.heap.push (PySem.W.kdv_obj "<lambda>" q params (.expr body) scope cl dV doc pm c' ctv), toks := t' } := by
  have e := Heap.get?_push_size s.heap (o := PySem.W.kdv_obj "<lambda>" q params (.expr body) scope cl dV doc pm c' ctv) rfl
  exact I.laid (fun b u z => Heap.get?_push_of_some _ z) (Nat.le_refl _) ⟨⟨doc, pm, ctv, e⟩, ⟨_, e⟩, fun _ _ ⟨x, y, z, g⟩ st => ⟨x, y, z, st _ g⟩⟩
theorem lam_tail {T : List (Addr × Str)} {c P : Addr} {params : Arguments} {body : Expr} {scope : Scope} {pos : Pos} {fl : Nat} {dV : Value} {E : Value → Shared → Prop} {Q : Value → Shared → Prop} (I : Inv X pins σ H s) (TB : TabB X.base X.mg c P) (hcode : X.env.code = .ref c)
    (hm : (P, X.env.qual ++ "<lambda>") ∈ T) (hu : ∀ p ∈ T, p.1 = P → p.2 = X.env.qual ++ "<lambda>") (hT : Tabs T H) (hfree : ∀ y ∈ scope.names, y.2 = .free → ∃ c, X.env.cells.lookup y.1 = some c)
    (h : ∀ (f c' : Addr) (H1 : Hp) (s' : Shared), Inv X pins σ H1 s' → Kx T H H1 → H f = none → H1 f = some (lamOb (X.env.qual ++ "<lambda>") params body scope (cloFrom X.env.cells scope.names []) dV f c') → H1 c' = some (CodeO c' (X.env.qual ++ "<lambda>")) → Q (.ref f) s') :
    wpAny (model X.prog X.w) X.A (makeTail "<lambda>" (X.env.qual ++ "<lambda>") params (.expr body) scope X.env dV .none none pos fl) Q E s := by
  obtain ⟨ps, hP, tr, am⟩ := hT _ hm
  have atP : s.heap.get? P = some { cls := .none, data := .fields ps } := I.hok P _ hP
  have gG := I.mod.glob.keeps I.bk
  have bG : s.heap.BuiltinsAt X.mg P := TB.bm.keeps I.bk
  cases hc : codeAmong pos ps.toList with
  | some cv =>
    obtain ⟨c', rfl, hco⟩ := am pos cv hc
    refine PySem.W.kdv_makeTailHit (mg := X.mg) (closure_ok hfree) I.ok.glob gG hcode (TB.code.keeps I.bk) atP tr hc bG fun ctv doc h' tk hx hsz => ?_
    have I1 : Inv X pins σ H { s with heap := h' } := I.kept (t' := s.toks) hx
    have nF : H h'.objs.size = none := I.hok.fresh hsz
    exact h _ c' _ _ (lam_ob (t' := tk) (doc := doc) (pm := (X.mg "__name__").getD .none) (ctv := ctv) I1) (Kx.same (Same.new (Same.refl _) nF)) nF upd_same (lk_new nF hco)
  | none =>
    refine PySem.W.kdv_makeTail (mg := X.mg) (closure_ok hfree) I.ok.glob gG hcode (TB.code.keeps I.bk) atP tr hc TB.gP bG fun c' ctv doc h' tk hx hge hlt hrec htb => ?_
    obtain ⟨c2, oc, vs, t, e2, hoc, hd, hv⟩ := hrec
    obtain rfl := Value.ref.inj e2
    have nC : H c' = none := I.hok.fresh hge
    have hsz : s.heap.objs.size ≤ h'.objs.size := Nat.le_trans hge (Nat.le_of_lt hlt)
    have I1 := inv_table (t' := s.toks) (more := #[rawInt pos.line, rawInt pos.col, .ref c']) (h' := h') I hP hx htb hge ⟨oc, vs, t, hoc, hd, hv⟩
    generalize hH1 : upd (upd H P (.tbl (ps ++ #[rawInt pos.line, rawInt pos.col, .ref c']))) c' (CodeO c' (X.env.qual ++ "<lambda>")) = H1 at I1
    have eN : ExtN H H1 := fun b o e n => by
      have nP : b ≠ P := fun z => n ps (Option.some.inj (e.symm.trans (by rw [z]; exact hP)))
      rw [← hH1, upd_ne (ne_of_none e nC), upd_ne nP]; exact e
    have cN : H1 c' = some (CodeO c' (X.env.qual ++ "<lambda>")) := by rw [← hH1, upd_same]
    have T1 : Tabs T H1 := fun p hp => by
      by_cases hb : p.1 = P
      · rw [hu p hp hb, hb]
        have eL : (ps ++ #[rawInt pos.line, rawInt pos.col, .ref c']).toList = ps.toList ++ [rawInt pos.line, rawInt pos.col, .ref c'] := by simp
        refine ⟨ps ++ #[rawInt pos.line, rawInt pos.col, .ref c'], ?_, eL ▸ PySem.TriplesOk_snoc _ _ _ _ tr, fun p' cv hcv => ?_⟩
        · rw [← hH1, upd_ne (ne_of_none hP nC), upd_same]
        · rw [eL] at hcv
          rcases among_app _ tr hcv with z | z
          · obtain ⟨d, e1, e3⟩ := am p' cv z
            exact ⟨d, e1, eN _ _ e3 codeO_ne⟩
          · exact ⟨c', z, cN⟩
      · obtain ⟨ps', a1, a2, a3⟩ := hT p hp
        refine ⟨ps', ?_, a2, fun p' cv hcv => ?_⟩
        · rw [← hH1, upd_ne (ne_of_none a1 nC), upd_ne hb]; exact a1
        · obtain ⟨d, e1, e3⟩ := a3 p' cv hcv
          exact ⟨d, e1, eN _ _ e3 codeO_ne⟩
    have nF1 : H1 h'.objs.size = none := I1.hok.fresh (Nat.le_refl _)
    have nF : H h'.objs.size = none := I.hok.fresh hsz
    exact h _ c' _ _ (lam_ob (t' := tk) (doc := doc) (pm := (X.mg "__name__").getD .none) (ctv := ctv) I1) ((Kx.ext eN T1).trans (Kx.same (Same.new (Same.refl _) nF1))) nF upd_same (lk_new nF1 cN)
end
/-- the reading: a new lambda at f, known as IL -/
def tMkL (T : List (Addr × Str)) (IL : Addr → Hp → Prop) : TE := fun σ H Q => Tabs T H ∧ ∀ f H1, Kx T H H1 → H f = none → IL f H1 → Q (.ref f) H1
section
variable {X : Cx}
theorem pe_lam {T : List (Addr × Str)} {c P : Addr} {params : Arguments} {body : Expr} {scope : Scope} {pos : Pos} {k : Nat} {t : XK → TE} (TB : TabB X.base X.mg c P) (hcode : X.env.code = .ref c) (hm : (P, X.env.qual ++ "<lambda>") ∈ T) (hu : ∀ p ∈ T, p.1 = P → p.2 = X.env.qual ++ "<lambda>")
    (L : LamC X.N X.env.scope scope []) (hbody : ∀ (A : Around) (outer : List Env) (s : Shared) (H : Hp) (E : XK) (f c' : Addr), Room k (A.deeper (lamEnv X scope s.heap.objs.size f c')) → PE (lamCx X A outer s H E scope f c') body (t E))
    (hdef : defaultsOf params X.env = ([], []) := by rfl) (hb : ∀ (q : Str) (cl : List (Str × Addr)) (doc pm cv ctv : Value), bindArgs (PySem.W.kdv_fn "<lambda>" q params (.expr body) scope cl .none doc pm cv ctv) ⟨[], []⟩ = pure [] := by intros; rfl) :
    PE X (.Lambda params body scope pos) (tMkL T (IsLam X k t)) := by
  refine ⟨fun pins s σ H Q I ⟨hT, h⟩ => PySem.W.kla_eval hdef ?_⟩
  rw [makeFunction_eq]
  simp only [List.zip_nil_right, List.filterMap_nil, List.isEmpty_nil, if_true, pure_bind]
  refine lam_tail I TB hcode hm hu hT (L.has I.ok) fun f c' H1 s' I1 kl hf e1 e2 => ?_
  exact ⟨.ref f, H1, I1, rfl, h f H1 kl hf ⟨params, body, scope, .none, [], c', L, e1, e2, .inl ⟨rfl, rfl, hb⟩, fun A outer s H1 E => hbody A outer s H1 E f c'⟩⟩
/-- lambda b=v: body, b not read -/
theorem pe_lamD {T : List (Addr × Str)} {c P : Addr} {params : Arguments} {body : Expr} {scope : Scope} {pos : Pos} {k : Nat} {t : XK → TE} {e : Expr} {v : V} {b : Str} (TB : TabB X.base X.mg c P) (hcode : X.env.code = .ref c) (hm : (P, X.env.qual ++ "<lambda>") ∈ T) (hu : ∀ p ∈ T, p.1 = P → p.2 = X.env.qual ++ "<lambda>")
    (L : LamC X.N X.env.scope scope [b]) (hd : params.defaults = [e]) (hk0 : params.kw_defaults = []) (he : PE X e (tC v)) (hbody : ∀ (A : Around) (outer : List Env) (s : Shared) (H : Hp) (E : XK) (f c' : Addr), Room k (A.deeper (lamEnv X scope s.heap.objs.size f c')) → PE (lamCx X A outer s H E scope f c') body (t E))
    (hb : ∀ (T : Addr) (q : Str) (cl : List (Str × Addr)) (doc pm cv ctv u : Value), ∃ kk, bindArgs (PySem.W.kdv_fn "<lambda>" q params (.expr body) scope cl (.ref T) doc pm cv ctv) ⟨[], []⟩ = seqItems? (.ref T) >>= kk ∧ kk (some #[u]) = pure [(b, u)]) :
    PE X (.Lambda params body scope pos) (tMkL T (IsLam X k t)) := by
  refine ⟨fun pins s σ H Q I ⟨hT, h⟩ => PySem.W.kdv_lam (by rw [hd]; rfl) hk0 ?_⟩
  rw [hd]
  refine PySem.W.kdv_all1 (thn (he.run pins s σ H (fun x H1 => x = v ∧ H1 = H) I ⟨rfl, rfl⟩) fun u s1 ⟨x, H1, I1, r1, ex, eH⟩ => PySem.W.kdv_all0 ?_)
  rw [ex] at r1
  rw [eH] at I1
  rw [makeFunction_eq]
  simp only [List.zip_nil_right, List.filterMap_nil, List.isEmpty_nil, List.isEmpty_cons, Bool.false_eq_true, if_false, if_true, pure_bind]
  refine wpAny_bind (wpAny_newTextTuple ?_)
  have nT : H s1.heap.objs.size = none := I1.hok.fresh (Nat.le_refl _)
  have eT := Heap.get?_push_size s1.heap (o := { cls := .type "tuple", data := .seq [u].toArray }) rfl
  have I2 : Inv X pins σ (upd H s1.heap.objs.size (.tup [v])) { s1 with heap := s1.heap.push { cls := .type "tuple", data := .seq [u].toArray } } :=
    I1.laid (t' := s1.toks) (fun b u z => Heap.get?_push_of_some _ z) (Nat.le_refl _) ⟨one_line, [u], .cons r1 .nil, ⟨_, eT, rfl, _, rfl⟩⟩
  have k1 : Kx T H (upd H s1.heap.objs.size (.tup [v])) := Kx.same (Same.new (Same.refl _) nT)
  refine lam_tail I2 TB hcode hm hu (k1.tabs hT) (L.has I.ok) fun f c' H3 s' I3 kl hf e1 e2 => ?_
  have hf' : H f = none := by
    cases z : H f with
    | none => rfl
    | some o => rw [upd_ne (ne_of_none z nT), z] at hf; cases hf
  exact ⟨.ref f, H3, I3, rfl, h f H3 (k1.trans kl) hf' ⟨params, body, scope, _, [b], c', L, e1, e2, .inr ⟨_, v, b, rfl, rfl, kl.keep _ _ (fun ps z => nomatch z) upd_same, hb _⟩, fun A outer s H1 E => hbody A outer s H1 E f c'⟩⟩
end
end L2.Px
set_option Elab.async false
set_option linter.all false
set_option maxRecDepth 100000
set_option maxHeartbeats 2000000
namespace L2.Px
open PySem PySem.Spec PyProof.Rows StX LamX
section
variable {X : Cx} {pins0 : List (Addr × Obj)} {σ0 : St} {H0 H HZ : Hp} {s0 s s1 : Shared}
theorem clo_of {N : List Str} {scope : Scope} {bs : List Str} (L : LamC N X.env.scope scope bs) (ok : X.Ok) {y : Str} {c : Addr} (e : (cloFrom X.env.cells scope.names []).lookup y = some c) : X.env.cells.lookup y = some c :=
  NdefX.clo_cm (L.has ok) e
theorem clo_at {scope : Scope} {y : Str} (hl : scope.names.lookup y = some .free) : ∃ c, (cloFrom X.env.cells scope.names []).lookup y = some c := mem_lookup (cloFrom_has (acc := []) (PySem.mem_of_lookup hl))
/-- the lambda's frame is laid; what it captured is as in the maker's frame, at s0 -/
theorem lam_enter {A : Around} {outer : List Env} {E : XK} {scope : Scope} {bs : List Str} {f c' : Addr} {h₁ : Heap} {tk : Nat} {m : Str → Option Value} (I : Inv X pins0 σ0 H0 s0) (L : LamC X.N X.env.scope scope bs) (e0 : Env0 X.prog X.w X.K X.mg X.base A outer s1 HZ) (hd : A.handled = none)
    (un : ∀ y c, X.env.cells.lookup y = some c → ∀ ob, s0.heap.get? c = some ob → H0 c = none → (∃ sl, s1.heap.get? c = some { ob with slots := sl }) ∧ HZ c = none)
    (hns : h₁.Ns s1.heap.objs.size m) (kp : ∀ b o, s1.heap.get? b = some o → h₁.get? b = some o) : Inv (lamCx X A outer s1 HZ E scope f c') [] σ0 HZ { s1 with heap := h₁, toks := tk } := by
  have cell : ∀ {y : Str} {c : Addr} {v : Option Value}, X.env.cells.lookup y = some c → s0.heap.IsCell c v → h₁.IsCell c v ∧ HZ c = none := fun {y c v} e ⟨o, ho, hv⟩ => by
    obtain ⟨⟨sl, q⟩, n⟩ := un y c e o ho (I.freeC y c e)
    exact ⟨⟨_, kp _ _ q, hv⟩, n⟩
  have non : ∀ {b : Addr} {Z : Prop}, b ∈ ([] : List Addr) → Z := fun h => absurd h (by simp)
  have ok : (lamCx X A outer s1 HZ E scope f c').Ok := {
    mod := e0.mod, kind := L.kind, glob := rfl, blt := rfl, above := Nat.le_refl _
    inj := fun x y c a b => I.ok.inj x y c (clo_of L I.ok a) (clo_of L I.ok b)
    has := fun y hy => by
      have hy' : scope.names.lookup y = some .cell ∨ scope.names.lookup y = some .free := hy
      rcases hy' with z | z
      · exact absurd rfl (L.own _ (PySem.mem_of_lookup z)).1
      · exact clo_at z
    cab := fun y c z => absurd (show false = true from z) Bool.false_ne_true
    hd := fun _ => hd, frames := Around.frames_deeper e0.frames, stk := .inr ⟨rfl, rfl⟩
    exf := fun b z => non z, bs := e0.bs, bsz := e0.bsz, noex := fun b _ _ z => non z, exfs := fun b z => non z, funs := e0.funs, frf := e0.frf }
  refine ⟨ok, rfl, e0.bare, Un.kept kp, ⟨m, hns, fun i y v e1 e2 e3 => ?_⟩, fun y c e => ?_, e0.hok.fresh (Nat.le_refl _), fun y c e => ?_, fun q hq => absurd (show q ∈ ([] : List (Addr × Obj)) ++ [] from hq) (by simp), e0.hok.kept kp, I.len⟩
  · have vis : Vis scope y := e3
    rcases vis with k | k | k
    · exact absurd (List.mem_of_getElem? e1) ((L.own _ (PySem.mem_of_lookup k)).2 rfl)
    · exact absurd rfl (L.own _ (PySem.mem_of_lookup k)).1
    · have out := L.free _ (PySem.mem_of_lookup k) rfl
      obtain ⟨m0, _, look⟩ := I.loc
      obtain ⟨u, r, q⟩ := look i y v e1 e2 (out.elim (fun z => .inr (.inl z)) fun z => .inr (.inr z))
      obtain ⟨c, hc⟩ := clo_at (X := X) k
      rcases q with ⟨k', _⟩ | ⟨_, c3, e', z⟩
      · have k' : X.env.scope.names.lookup y = some .local := k'
        rcases out with z | z <;> exact absurd (k'.symm.trans z) (by simp)
      · obtain rfl := Option.some.inj (e'.symm.trans (clo_of L I.ok hc))
        exact ⟨u, r, .inr ⟨.inr k, _, hc, (cell e' z).1⟩⟩
  · obtain ⟨v, z⟩ := I.cell y c (clo_of L I.ok e)
    exact ⟨v, (cell (clo_of L I.ok e) z).1⟩
  · obtain ⟨v, z⟩ := I.cell y c (clo_of L I.ok e)
    exact (cell (clo_of L I.ok e) z).2
/-- how the lambda at f binds its nothing -/
theorem LamB.binds {params : Arguments} {body : Expr} {scope : Scope} {dV : Value} {bs : List Str} {q : Str} {cl : List (Str × Addr)} {doc pm cv ctv : Value} (hb : LamB params body scope dV bs H) (ht : ∀ T xs, H T = some (.tup xs) → ∃ its, Vals xs its ∧ s.heap.IsTuple T its.toArray) :
    ∃ bn : List (Str × Value), (∀ y ∈ bn, y.1 ∈ bs) ∧ BindsTo s (PySem.W.kdv_fn "<lambda>" q params (.expr body) scope cl dV doc pm cv ctv) ⟨[], []⟩ bn := by
  rcases hb with ⟨rfl, rfl, h⟩ | ⟨T, v, b, rfl, rfl, hT, h⟩
  · exact ⟨[], fun y hy => absurd hy (by simp), .of_eq (h _ _ _ _ _ _)⟩
  · obtain ⟨its, rv, o, ho, hc, n, hd⟩ := ht T _ hT
    obtain ⟨u, rfl, ru⟩ := rv.one
    obtain ⟨kk, h1, h2⟩ := h q cl doc pm cv ctv u
    exact ⟨[(b, u)], fun y hy => by rw [List.mem_singleton.mp hy]; exact List.mem_singleton.mpr rfl, .of_defaults rfl ho hd h1 h2⟩
end
/-- what a comprehension's block knows of the def around it -/
def Maker (X : Cx) (σ0 : St) (s : Shared) (H : Hp) (fp : List Addr) : Prop := ∃ pins, Inv X pins σ0 H s ∧ ∀ y c, X.env.cells.lookup y = some c → c ∉ fp
end L2.Px
set_option Elab.async false
set_option linter.all false
set_option maxRecDepth 100000
set_option maxHeartbeats 2000000
namespace L2.Px
open PySem PySem.Spec PyProof.Rows StX LamX
section
variable {X : Cx}
/-- what a comprehension's parts read, told of the def around it -/
def Block (X : Cx) (σ0 : St) (scope : Scope) (tg elt : Expr) (ifs : List Expr) (g : TG) (tt : TT) (te : TE) : Prop := ∀ (s : Shared) (H : Hp) (C : Addr) (cl : List (Str × Addr)) (fp : List Addr), Maker X σ0 s H fp →
  PG (X.blk s H scope (compEnvC scope cl C X.env) fp) tg g ∧ PTs (X.blk s H scope (compEnvC scope cl C X.env) fp) ifs tt ∧ PE (X.blk s H scope (compEnvC scope cl C X.env) fp) elt te
theorem pe_lcM {elt tg iter : Expr} {ifs : List Expr} {scope : Scope} {own : List (Str × Nat)} {pos : Pos} {wi : TI} {g : St → TG} {tt : St → TT} {te : St → TE} (hc : X.calm = true) (hN : X.N.Nodup) (hi : PI X tg iter wi) (ok : BlkOk X.N X.env.scope scope own)
    (hb : ∀ σ, Block X σ scope tg elt ifs (g σ) (tt σ) (te σ)) (hs : ∀ x, foldedSetIterable iter X.env x = pure x := by intro _; rfl) :
    PE X (.ListComp elt [⟨tg, iter, ifs, 0⟩] scope pos) (fun σ H Q => tLc wi (g σ) (tt σ) (te σ) (own.map (·.2)) σ H Q) := by
  refine ⟨fun pins s σ H Q I0 ask => ?_⟩
  rw [eval_ListComp]
  have cap : ∀ y ∈ scope.names, y.2 = .free → ∃ c, X.env.cells.lookup y.1 = some c := fun y hy z => (ok.free y hy z).elim (fun k => I0.ok.has _ (.inl k)) fun k => I0.ok.has _ (.inr k)
  refine wpAny_comprehension_free (use := none) rfl hs (closure_ok cap) ok.kind (fun y hy z => by rw [ok.uniq y hy, z]) (thn (hi.run pins s σ H _ I0 ask) fun _ _ q => thn q fun _ sA ⟨it, fp, tn, J, HA, eit, IA, turn, stA, fpA, ask1⟩ => ?_)
  subst eit
  refine wpAny_newObj_type (newEnv_comp ?_) (by show 0 ≤ sizeLine; decide)
  generalize dD : sA.heap.objs.size = D
  have freshD : HA D = none := IA.hok.fresh (Nat.le_of_eq dD)
  obtain ⟨W, ⟨n0, start0⟩, each⟩ := ask1 D freshD
  -- sB: the empty list is there
  generalize dB : ({ sA with heap := sA.heap.push { cls := .type "list", data := .seq ([] : List Value).toArray } } : Shared) = sB
  have heB : sB.heap = sA.heap.push { cls := .type "list", data := .seq ([] : List Value).toArray } := by rw [← dB]
  have IB : Inv X pins σ (upd HA D (.lst [])) sB := by
    rw [← dB]
    exact IA.laid (t' := sA.toks) (fun b o z => Heap.get?_push_of_some _ z) (Nat.le_of_eq dD) ⟨Nat.zero_le _, [], 0, .nil, by rw [← dD]; exact Heap.get?_push_size _ rfl⟩
  have old : ∀ b ∈ fp, b < sA.heap.objs.size := fun b hb => let ⟨_, z, _⟩ := turn.obj _ _ stA b hb; Heap.lt_size z
  generalize dH : upd HA D (.lst []) = HB at IB start0
  have nB : ∀ b ∈ fp, HB b = none := fun b hb => by rw [← dH, upd_ne (by rw [← dD]; exact Nat.ne_of_lt (old b hb))]; exact (fpA b hb).1
  have fpB : ∀ b ∈ fp, FpOk X pins HB b ∧ b < sB.heap.objs.size := fun b hb => ⟨⟨nB b hb, (fpA b hb).2⟩, by rw [heB, Heap.size_push]; exact Nat.lt_succ_of_lt (old b hb)⟩
  have stB : tn 0 sB.heap := turn.keep _ _ _ stA fun b _ o z => by rw [heB]; exact Heap.get?_push_of_some _ z
  have mk : Maker X σ sB HB fp := ⟨pins, IB, fun y c z hc => (fpB c hc).1.2.2.2.2.1 y c z rfl⟩
  obtain ⟨pg, pt, pe⟩ := hb σ sB HB sB.heap.objs.size (cellsFrom (sB.heap.objs.size + 1) scope.names (cloFrom X.env.cells scope.names [])) fp mk
  have IC := block_start IB ok hN fpB
  generalize dE : compEnvC scope (cellsFrom (sB.heap.objs.size + 1) scope.names (cloFrom X.env.cells scope.names [])) sB.heap.objs.size X.env = ce at IC pg pt pe
  have ceL : ce.locals = sB.heap.objs.size := by rw [← dE]; rfl
  generalize dC : ({ sB with heap := pushCells (sB.heap.push { cls := .type "dict", data := .dict #[] }) scope.names } : Shared) = sC at IC
  have stC : tn 0 sC.heap := turn.keep _ _ _ stB fun b _ o z => by rw [← dC]; exact pushCells_keeps _ _ _ _ (Heap.get?_push_of_some _ z)
  have fpAt : ∀ {σ' : St} {H' : Hp} {s' : Shared}, Inv (X.blk sB HB scope ce fp) [] σ' H' s' → (∀ b ∈ fp, H' b = none) → ∀ b ∈ fp, FpOk (X.blk sB HB scope ce fp) [] H' b := fun {σ' H' s'} I' hn b hb =>
    ⟨hn b hb, (I'.ok.exf b hb).1, I'.ok.exfs b hb, .inl hb, fun y c z => (I'.ok.exf b hb).2 y c z, fun q hq => absurd (show q ∈ ([] : List (Addr × Obj)) ++ [] from hq) (by simp)⟩
  have sim : ∀ {α : Type} {m : Sem α} {Qa Qb : α → Shared → Prop} {Ex : Value → Shared → Prop} {s' : Shared}, wpAny (model X.prog X.w) X.A m Qa (fun _ _ => False) s' → (∀ v z, Qa v z → Qb v z) → wpAny (model X.prog X.w) X.A m Qb Ex s' := fun h1 h2 => wpAny_mono h1 h2 fun _ _ z => False.elim z
  let Sta : Nat → Nat → Shared → Prop := fun i n s' => ∃ H', Inv (X.blk sB HB scope ce fp) [] (wipe σ (own.map (·.2))) H' s' ∧ tn i s'.heap ∧ (∀ b ∈ fp, H' b = none) ∧ W i n H'
  have run : codeAny (model X.prog X.w) X.A (.compLoop (.ListComp elt [⟨tg, iter, ifs, 0⟩] scope pos) 0 (.ref it) (.ref D) ce) (compPost (model X.prog X.w) X.A X.xe none (EP X pins σ Q) (.ref D) sB.heap.objs.size) sC := by
    refine compLoop_any (fun n s' => ∃ i, Sta i n s') ?_ n0 ⟨0, HB, IC, stC, nB, start0⟩
    rintro n s5 ⟨i, H5, I5, st5, n5, w5⟩
    rcases each i n H5 w5 with ⟨ends, fin⟩ | ⟨goes, Nx, less, body⟩
    · refine sim (turn.done (X.blk sB HB scope ce fp) rfl rfl rfl hc i [] s5 _ H5 (fun _ _ => False) I5 (fpAt I5 n5) st5 ends) fun r s6 ⟨hr, I6⟩ => ?_
      subst hr
      have I7 : Inv X pins σ H5 s6 := IB.call' (ch := fp) I6.os I6.base I6.hok I6.bare fun b hb => ⟨(fpB b hb).1.2.2.2.1, (fpB b hb).1.2.1, (fpB b hb).1.2.2.2.2.1, (fpB b hb).1.2.2.2.2.2⟩
      obtain ⟨mm, nsm, _⟩ := I6.loc
      have nsm : s6.heap.Ns ce.locals mm := nsm
      have nL : H5 ce.locals = none := I6.free
      rw [ceL] at nsm nL
      refine ⟨mm, nsm, fun h'' sb => ?_⟩
      obtain ⟨f0, f1, f2, f3, f4, f5⟩ := IB.fpOk (Nat.le_refl _) nL
      exact ⟨.ref D, H5, I7.turned (t' := s6.toks) (fun b o hb z => (sb.2 b hb).trans z) f0 f1 f3 f4 f5, rfl, fin⟩
    · refine sim (turn.item (X.blk sB HB scope ce fp) rfl rfl rfl hc i [] s5 _ H5 (fun _ _ => False) I5 (fpAt I5 n5) st5 goes) fun r s6 ⟨u, hr, h6⟩ => ?_
      subst hr
      refine sim h6 fun _ s7 ⟨v, H7, I7, r7, y7, st7, n7⟩ => ?_
      refine sim (pg.run _ s7 _ H7 v u _ (I7.pinned (fpAt I7 n7) (turn.obj _ _ st7)) r7 (body v H7 y7)) fun _ s8 ⟨σ8, H8, I8, same8, q8⟩ => ?_
      refine sim (pt.run _ s8 σ8 H8 _ I8 q8) fun b s9 ⟨H9, I9, q9⟩ => ?_
      have again : ∀ {s' : Shared} {H' : Hp}, Inv (X.blk sB HB scope ce fp) ([] ++ pinsAt fp s7.heap) σ8 H' s' → Nx H' → ∃ m, m < n ∧ ∃ i, Sta i m s' := fun {s' H'} I' nx => by
        obtain ⟨m', lt, w'⟩ := less H' nx
        have pinned : ∀ b ∈ fp, ∀ o, s7.heap.get? b = some o → s'.heap.get? b = some o ∧ H' b = none := fun b hb o z =>
          let q := I'.pin (b, o) (List.mem_append_right _ (List.mem_append_right _ (mem_pinsAt hb z)))
          ⟨q.1, q.2.1⟩
        refine ⟨m', lt, i + 1, H', (I'.unpinned (pins := [])).weak (by rw [← same8, wipe_length]) (fun j z q => ?_), turn.keep _ _ _ st7 fun b hb o z => (pinned b hb o z).1, fun b hb => ?_, w'⟩
        · rw [← same8] at q
          exact (wipe_some q).1
        · obtain ⟨o, z, _⟩ := turn.obj _ _ st7 b hb
          exact (pinned b hb o z).2
      match b, q9 with
      | false, q9 => exact again I9 q9
      | true, q9 => exact sim (pe.run _ s9 σ8 H9 _ I9 q9) fun z s10 ⟨yv, H10, I10, r10, acc, eD, lt, nx⟩ => L2.app_ok (X := X.blk sB HB scope ce fp) I10 eD lt r10 fun s11 I11 => again I11 nx
  have all : codeAny (model X.prog X.w) X.A (.compStart (.ListComp elt [⟨tg, iter, ifs, 0⟩] scope pos) 0 (.ref it) (.ref D) ce) (compPost (model X.prog X.w) X.A X.xe none (EP X pins σ Q) (.ref D) sB.heap.objs.size) sC := codeAny_compStart_list run (turn.self X.A 0 _ _ _ stC run)
  rw [← dE] at all
  exact all
end
end L2.Px
set_option Elab.async false
set_option linter.all false
set_option maxRecDepth 100000
set_option maxHeartbeats 2000000
namespace L2.Px
open PySem PySem.Spec PyProof.Rows StX ClX
section
variable {P : Program} {w : World} {K : PySem.W.Frag} {mg : Str → Option Value} {base : Heap} {CX : CXT} {k : Nat} {C : Addr} {ps : List Str} {sp sp' : Sp} {x m qual : Str} {st : Stmt} {f : Addr} {R : Addr → Prop}
theorem DefG.okX {N : List Str} (D : DefG K mg x st ps) (S : FnScope N ps (defScope st)) (len : ∀ vs H Q E, sp vs H Q E → vs.length = ps.length)
    (hbody : ∀ (f : Addr) (cdv : Value) (A : Around) (outer : List Env) (s : Shared) (H : Hp) (vs : List V) (Q : VK) (E : XK), Room k (A.deeper (envOfC x (defScope st) s.heap.objs.size f cdv)) → sp vs H Q E →
      ∃ t, PSs (cxOf (L2.CX P w) P w K mg base N x (defScope st) f cdv A outer s H E) (defBody st) t ∧ t { nx := fun _ H' => Q .non H', rt := Q } (start N vs) H) : GOk P w K mg base (L2.CX P w) (k + 1) x sp := by
  obtain ⟨f, fd, F, a, b⟩ := D
  exact ⟨f, FnOk.toR (F.okX S len fun cdv A outer s H vs Q E hr h => hbody f cdv A outer s H vs Q E hr h) b, a, F.kp⟩
theorem DefM.okX {N : List Str} (D : DefM K C m qual st ps) (S : FnScope N ps (defScope st)) (len : ∀ vs H Q E, sp vs H Q E → vs.length = ps.length)
    (hbody : ∀ (f : Addr) (cdv : Value) (A : Around) (outer : List Env) (s : Shared) (H : Hp) (vs : List V) (Q : VK) (E : XK), Room k (A.deeper (envOfC qual (defScope st) s.heap.objs.size f cdv)) → sp vs H Q E →
      ∃ t, PSs (cxOf (L2.CX P w) P w K mg base N qual (defScope st) f cdv A outer s H E) (defBody st) t ∧ t { nx := fun _ H' => Q .non H', rt := Q } (start N vs) H) : MOk P w K mg base (L2.CX P w) (k + 1) C m sp := by
  obtain ⟨f, fd, F, a, b⟩ := D
  exact ⟨f, FnOk.toR (F.okX S len fun cdv A outer s H vs Q E hr h => hbody f cdv A outer s H vs Q E hr h) b, a⟩
theorem DefX.okX {N : List Str} (D : DefX K R m qual st ps) (S : FnScope N ps (defScope st)) (len : ∀ vs H Q E, sp vs H Q E → vs.length = ps.length)
    (hbody : ∀ (f : Addr) (cdv : Value) (A : Around) (outer : List Env) (s : Shared) (H : Hp) (vs : List V) (Q : VK) (E : XK), Room k (A.deeper (envOfC qual (defScope st) s.heap.objs.size f cdv)) → sp vs H Q E →
      ∃ t, PSs (cxOf (L2.CX P w) P w K mg base N qual (defScope st) f cdv A outer s H E) (defBody st) t ∧ t { nx := fun _ H' => Q .non H', rt := Q } (start N vs) H) : XOk P w K mg base (L2.CX P w) (k + 1) R sp := by
  obtain ⟨f, fd, F, r, b⟩ := D
  exact ⟨f, FnOk.toR (F.okX S len fun cdv A outer s H vs Q E hr h => hbody f cdv A outer s H vs Q E hr h) b, r⟩
theorem DefC.okX {N : List Str} (D : DefC K C m qual st ps) (S : FnScope N ps (defScope st)) (len : ∀ vs H Q E, sp vs H Q E → vs.length = ps.length)
    (hbody : ∀ (f : Addr) (cdv : Value) (A : Around) (outer : List Env) (s : Shared) (H : Hp) (vs : List V) (Q : VK) (E : XK), Room k (A.deeper (envOfC qual (defScope st) s.heap.objs.size f cdv)) → sp vs H Q E →
      ∃ t, PSs (cxOf (L2.CX P w) P w K mg base N qual (defScope st) f cdv A outer s H E) (defBody st) t ∧ t { nx := fun _ H' => Q .non H', rt := Q } (start N vs) H) : COk P w K mg base (L2.CX P w) (k + 1) C m sp := by
  obtain ⟨mc, p, g, fd, F, r, c, b⟩ := D
  exact ⟨mc, p, g, FnOk.toR (F.okX S len fun cdv A outer s H vs Q E hr h => hbody g cdv A outer s H vs Q E hr h) b, r, c⟩
theorem DefK.okX {N : List Str} (D : DefK K C qual st ps) (S : FnScope N ps (defScope st)) (len : ∀ vs H Q E, sp vs H Q E → vs.length = ps.length)
    (hbody : ∀ (f : Addr) (cdv : Value) (A : Around) (outer : List Env) (s : Shared) (H : Hp) (vs : List V) (Q : VK) (E : XK), Room k (A.deeper (envOfC qual (defScope st) s.heap.objs.size f cdv)) → sp vs H Q E →
      ∃ t, PSs (cxOf (L2.CX P w) P w K mg base N qual (defScope st) f cdv A outer s H E) (defBody st) t ∧ t { nx := fun _ H' => Q .non H', rt := Q } (start N vs) H) : KOk P w K mg base (L2.CX P w) (k + 1) C sp := by
  obtain ⟨f, fd, F, M, b⟩ := D
  exact ⟨f, FnOk.toR (F.okX S len fun cdv A outer s H vs Q E hr h => hbody f cdv A outer s H vs Q E hr h) b, M⟩
theorem DefKS.okX {N : List Str} {pv : Str} (D : DefKS K C qual st ps pv) (S : FnScope N (ps ++ [pv]) (defScope st))
    (hbody : ∀ (f : Addr) (cdv : Value) (A : Around) (outer : List Env) (s : Shared) (H : Hp) (vs : List V) (Q : VK) (E : XK), Room k (A.deeper (envOfC qual (defScope st) s.heap.objs.size f cdv)) → sp vs H Q E →
      ∃ t, PSs (cxOf (L2.CX P w) P w K mg base N qual (defScope st) f cdv A outer s H E) (defBody st) t ∧ t { nx := fun _ H' => Q .non H', rt := Q } (start N vs) H) : KOk P w K mg base (L2.CX P w) (k + 1) C (spStar ps.length sp) := by
  obtain ⟨f, fd, F, M, hb⟩ := D
  obtain ⟨oc, od, kV, doc, pm, an, cdv, ct, osl, rfl, lk, hcd⟩ := F.ex
  exact ⟨f, fn_star (sp := sp) lk hcd S cxUp hb fun A outer s H vs Q E hr h => hbody f cdv A outer s H vs Q E hr h, M⟩
theorem fnR_up (F : FnR P w K mg base CX0 k f sp) : FnR P w K mg base CX k f sp := fun A outer s H us vs Q E hr e0 r h =>
  codeAny_mono (F A outer s H us vs Q E hr e0 r h) fun r s' hq => match r, hq with
    | .error e, hq => hq.elim
    | .ok (.ret u), hq => hq
    | .ok .next, hq => hq
    | .ok .brk, hq => hq
    | .ok .cont, hq => hq
theorem fnR_or (F : FnR P w K mg base CX k f sp) (G : FnR P w K mg base CX k f sp') : FnR P w K mg base CX k f (fun vs H Q E => sp vs H Q E ∨ sp' vs H Q E) := fun A outer s H us vs Q E hr e0 r h =>
  h.elim (F A outer s H us vs Q E hr e0 r) (G A outer s H us vs Q E hr e0 r)
/-- a def that answers or raises -/
theorem GOk.or {i j : Nat} (F : GOk P w K mg base CX0 i x sp) (G : GOk P w K mg base CX j x sp') (hi : i ≤ k) (hj : j ≤ k) : GOk P w K mg base CX k x (fun vs H Q E => sp vs H Q E ∨ sp' vs H Q E) := by
  obtain ⟨f, a1, a2, a3⟩ := F.mono hi
  obtain ⟨g, b1, b2, b3⟩ := G.mono hj
  cases a2.symm.trans b2
  exact ⟨f, fnR_or (fnR_up a1) b1, a2, a3⟩
theorem MOk.or {i j : Nat} (F : MOk P w K mg base CX0 i C m sp) (G : MOk P w K mg base CX j C m sp') (hi : i ≤ k) (hj : j ≤ k) : MOk P w K mg base CX k C m (fun vs H Q E => sp vs H Q E ∨ sp' vs H Q E) := by
  obtain ⟨f, a1, a2⟩ := F.mono hi
  obtain ⟨g, b1, b2⟩ := G.mono hj
  have e := a2.at_.symm.trans b2.at_
  simp only [Option.some.injEq, Value.ref.injEq] at e
  subst e
  exact ⟨f, fnR_or (fnR_up a1) b1, a2⟩
end
section
variable {X : Cx} {E : XK}
/-- what leaves a callee leaves this def -/
theorem passX (tk : Takes X (fun cls d _ H => E cls d H)) : Passes (L2.CX X.prog X.w) X E := passes_call tk fun _ _ _ _ h => h
end
/-- one without an __init__ of its own -/
structure XPl (K : PySem.W.Frag) (mg : Str → Option Value) (x : Str) (C : Addr) : Prop where
  g : mg x = some (.ref C)
  ex : PySem.W.excIn K C [.type "ValueError", .type "Exception", .type "BaseException", .type "object"] "ValueError.__new__" = true
  kp : PySem.W.keepIn K (.ref C) = true
  sub : PySem.W.subIn K (.ref C) (.type "BaseException") = some true
  ty : PySem.W.typeIn K (.ref C) = some (.type "type")
/-- one with an __init__ of its own, that stores the fields fs -/
structure XOw (K : PySem.W.Frag) (mg : Str → Option Value) (x : Str) (C : Addr) (fs : List Str) : Prop where
  g : mg x = some (.ref C)
  oex : OexC K C
  xf : XfC K C
  no : ∀ f ∈ fs, PySem.W.findIn K (.ref C) f = some none
/-- its __init__, as it stands; what it promises -/
def DefI (K : PySem.W.Frag) (C : Addr) (qual : Str) (st : Stmt) (ps : List Str) : Prop := ∃ f fd, Fun K "__init__" qual st f fd ∧ PySem.W.findIn K (.ref C) "__init__" = some (some (.ref f)) ∧ PySem.W.typeIn K (.ref f) = some (.type "function") ∧ Binds K fd ps []
def IOk (P : Program) (w : World) (K : PySem.W.Frag) (mg : Str → Option Value) (base : Heap) (k : Nat) (C : Addr) (ps : List Str) (sp : Sp) : Prop := ∃ f fd, FnOk P w K mg base CX0 k f fd ps sp ∧ PySem.W.findIn K (.ref C) "__init__" = some (some (.ref f)) ∧ PySem.W.typeIn K (.ref f) = some (.type "function") ∧ Binds K fd ps []
theorem DefI.ok {P : Program} {w : World} {K : PySem.W.Frag} {mg : Str → Option Value} {base : Heap} {k : Nat} {C : Addr} {qual : Str} {st : Stmt} {ps N : List Str} {sp : Sp} (D : DefI K C qual st ps) (S : FnScope N ps (defScope st)) (len : ∀ vs H Q E, sp vs H Q E → vs.length = ps.length)
    (hbody : ∀ (f : Addr) (cdv : Value) (A : Around) (outer : List Env) (s : Shared) (H : Hp) (vs : List V) (Q : VK) (E : XK), Room k (A.deeper (envOfC qual (defScope st) s.heap.objs.size f cdv)) → sp vs H Q E →
      ∃ t, PSs (cxOf CX0 P w K mg base N qual (defScope st) f cdv A outer s H E).nox (defBody st) t ∧ t { nx := fun _ H' => Q .non H', rt := Q } (start N vs) H) : IOk P w K mg base (k + 1) C ps sp := by
  obtain ⟨f, fd, F, i, t, b⟩ := D
  exact ⟨f, fd, F.ok S len fun cdv A outer s H vs Q E hr h => hbody f cdv A outer s H vs Q E hr h, i, t, b⟩
/-- TextError.__init__(self, ..): what an own base class hands on -/
structure XBs (K : PySem.W.Frag) (mg : Str → Option Value) (x : Str) (C : Addr) : Prop where
  g : mg x = some (.ref C)
  rd : PySem.W.readsIn K C (.type "type") = true
  ga : PySem.W.specialIn K (.ref C) "__getattribute__" = some (some (.builtin "type.__getattribute__"))
  at_ : PySem.W.findCls K (.ref C) (.type "type") "__init__" = some (.val (.builtin "ValueError.__init__"))
section
variable {X : Cx} {o e : Expr} {es : List Expr} {to te : TE} {ta : TA} {f x : Str} {p p' p1 p2 pos : Pos} {C : Addr}
theorem pe_xinit {pl : Sem Bool} (B : XBs X.K X.mg x C) (ha : PA X (e :: es) ta) (hg : Gl X x := by rfl) (hdb : (x == ("__debug__" : Str)) = false := by decide)
    (hc : eval (.Call (.Attribute (.Name x p1) "__init__" p2) (e :: es) [] pos) X.env = (do
      let ov ← eval (.Name x p1) X.env
      standAt p2.atName
      let (f, first) ← holding [ov] (getMethod ov "__init__" pl)
      callWith pos f first (backTo pos (starEach (e :: es) X.env)) (backToKw pos (keywordEach [] X.env))) := by rfl)
    (he : starEach (e :: es) X.env = (false, eval e X.env) :: starEach es X.env := by rfl) (hpl : (backTo pos (starEach es X.env)).any (·.1) = false := by rfl) :
    PE X (.Call (.Attribute (.Name x p1) "__init__" p2) (e :: es) [] pos) (tVeI X.K ta) := by
  refine ⟨fun pins s σ H Q I h => PySem.W.methodCall_KW (ld_glob I hg B.g ?_ hdb) hc⟩
  refine PySem.W.method_cls I.kIn B.ga (PySem.W.cls_value I.kIn B.rd B.at_ (by decide +kernel) ?_)
  refine PyProof.Rows.callWith_method1 (thn (ha.run pos pins _ σ H _ (I.tok _) h) fun us s1 ⟨vs, H1, I1, r1, a, C, ws, ev, hl, T, ea, q⟩ => ?_) he hpl
  subst ev
  cases r1 with
  | @cons _ u0 _ ur ra rw' =>
    obtain rfl : u0 = Value.ref a := ra
    exact oinit_ok T I1 ea (by rw [← Paired.length rw', sizeLine_eq]; omega) fun s' J => ⟨.non, H1, J, rfl, q⟩
end
section
variable {X : Cx} {K : PySem.W.Frag} {o e : Expr} {es : List Expr} {to te ta2 : TE} {ta : TA} {f x m : Str} {p p' p1 p2 pos : Pos} {C a : Addr} {σ : St} {H : Hp} {Q : VK} {ts : List TE} {acc : Str} {n : Nat} {RR : Str → Hp → Prop} {D : Ends}
theorem pe_xinitK {pl : Sem Bool} (hk : X.K = K) (B : XBs K X.mg x C) (ha : PA X (e :: es) ta) (hg : Gl X x := by rfl) (hdb : (x == ("__debug__" : Str)) = false := by decide)
    (hc : eval (.Call (.Attribute (.Name x p1) "__init__" p2) (e :: es) [] pos) X.env = (do
      let ov ← eval (.Name x p1) X.env
      standAt p2.atName
      let (f, first) ← holding [ov] (getMethod ov "__init__" pl)
      callWith pos f first (backTo pos (starEach (e :: es) X.env)) (backToKw pos (keywordEach [] X.env))) := by rfl)
    (he : starEach (e :: es) X.env = (false, eval e X.env) :: starEach es X.env := by rfl) (hpl : (backTo pos (starEach es X.env)).any (·.1) = false := by rfl) :
    PE X (.Call (.Attribute (.Name x p1) "__init__" p2) (e :: es) [] pos) (tVeI K ta) := by subst hk; exact pe_xinit (pl := pl) B ha hg hdb hc he hpl
theorem ps_ostK (hk : X.K = K) (ho : PE X o to) (he : PE X e te) (hs : swapsWith e (some (.Attribute o f p')) pos.line X.env = pure false := by rfl) : PS X (.Assign [.Attribute o f p'] e pos) (tOst K f to te) := by subst hk; exact ps_ost ho he hs
def rVeI (K : PySem.W.Frag) (vs : List V) (H1 : Hp) (Q : VK) : Prop := ∃ (a C : Addr) (ws : List V), vs = .ref a :: ws ∧ ws.length ≤ 1000 ∧ OexC K C ∧ H1 a = some (exo a C none) ∧ Q .non H1
theorem rd_veI (h : ta σ H fun vs H1 => rVeI K vs H1 Q) : tVeI K ta σ H Q := h
theorem rd_veI1 {v : V} (T : OexC K C) (e : H a = some (exo a C none)) (q : Q .non H) : rVeI K [.ref a, v] H Q := ⟨a, C, [v], rfl, by show 1 ≤ 1000; decide, T, e, q⟩
theorem nat_small {n : Nat} (h : n < 1000000000) : (n : Int).natAbs.log2 < 1920 := by
  rw [Int.natAbs_natCast]
  by_cases h0 : n = 0
  · subst h0; decide
  · have h2 : (2 : Nat) ^ 30 = 1073741824 := by decide
    have h3 : n.log2 < 30 := (Nat.log2_lt h0).mpr (by omega)
    omega
theorem nat_len {n : Nat} (h : n < 1000000000) : (Str.ofString (toString (n : Int))).length ≤ 9 := by
  have e : (10 : Int) ^ 9 = 1000000000 := by decide
  exact PyProof.Rows.toString_length_le (k := 9) (by omega) (by decide) (by rw [e]; omega)
/-- the end of a message: a small number -/
theorem rd_jnum {i : Nat} (hi : σ[i]? = some (some (.int (n : Nat)))) (hn : n < 1000000000) (ha : acc.length ≤ 1000) (k : ∀ y : Str, y.length ≤ 1009 → tJs ts y σ H RR) : tJs (tFmt (tVar i) :: ts) acc σ H RR := by
  refine ⟨_, hi, .inr ⟨_, rfl, nat_small hn, _, rfl, ?_, ?_⟩⟩
  · have := nat_len hn
    rw [str_len_app, sizeLine_eq]; omega
  · refine k _ ?_
    have := nat_len hn
    rw [str_len_app]; omega
theorem rd_jlit (ha : acc.length + x.length ≤ 1000) (k : tJs ts (acc ++ x) σ H RR) : tJs (tC (.str x) :: ts) acc σ H RR := ⟨x, rfl, by rw [str_len_app, sizeLine_eq]; omega, k⟩
theorem rd_jnil (k : RR acc H) : tJs [] acc σ H RR := k
def rOst (K : PySem.W.Frag) (f : Str) (D : Ends) (σ : St) (y x : V) (H2 : Hp) : Prop := ∃ a C : Addr, x = .ref a ∧ OexC K C ∧ PySem.W.findIn K (.ref C) f = some none ∧
  ((H2 a = some (exo a C none) ∧ ∀ dx, H2 dx = none → dx ≠ a → D.nx σ (upd (upd H2 dx (exd dx [(f, y)])) a (exo a C (some dx)))) ∨
    ∃ (dx : Addr) (fs : List (Str × V)), H2 a = some (exo a C (some dx)) ∧ H2 dx = some (exd dx fs) ∧ fs.length ≤ 900 ∧ D.nx σ (upd H2 dx (exd dx ((f, y) :: fs))))
theorem rd_ost (h : te σ H fun y H1 => to σ H1 fun x H2 => rOst K f D σ y x H2) : tOst K f to te D σ H := h
theorem rd_ost1 {v : V} (T : OexC K C) (no : PySem.W.findIn K (.ref C) f = some none) (e : H a = some (exo a C none)) (k : ∀ dx, H dx = none → dx ≠ a → D.nx σ (upd (upd H dx (exd dx [(f, v)])) a (exo a C (some dx)))) : rOst K f D σ v (.ref a) H := ⟨a, C, rfl, T, no, .inl ⟨e, k⟩⟩
end
section
variable {X : Cx} {E : XK} {C : Addr} {x m f g : Str} {j : Nat} {p p2 pos pos' : Pos} {e e' : Expr} {es : List Expr} {te te' : TE} {ta : TA} {sp : Sp} {k : Nat} {ps : List Str}
def tRz (C : Addr) (E : XK) : TS := fun _ _ H => E (.ref C) none H
theorem ps_rz (D : XPl X.K X.mg x C) (tk : Takes X (fun cls d _ H => E cls d H)) (hc : X.calm = true := by rfl) (hg : Gl X x := by rfl) (hdb : (x == ("__debug__" : Str)) = false := by decide) : PS X (.Raise (some (.Call (.Name x p) [.Constant (.str m) j p2] [] pos)) none pos') (tRz C E) :=
  ps_raise hc tk (pmk_own PySem.F.excBase_ValueError D.ex D.g D.kp (raises_own D.sub D.ty) hg hdb)
/-- an own exception is made of vs, its __init__ keeping sp -/
def rMkO (C : Addr) (sp : Sp) (E : XK) (vs : List V) (H1 : Hp) : Prop := vs.length ≤ 1000 ∧ ∀ a, H1 a = none → sp (.ref a :: (vs ++ [])) (upd H1 a (exo a C none))
  (fun v H2 => v = .non ∧ ∃ (d : Addr) (fs : List (Str × V)), H2 a = some (exo a C (some d)) ∧ H2 d = some (exd d fs) ∧ H1 d = none ∧ E (.ref C) (some d) (upd (del H2 a) d (.xd fs))) (fun _ _ _ => False)
def tRzI (C : Addr) (sp : Sp) (ta : TA) (E : XK) : TS := fun _ σ H => ta σ H fun vs H1 => rMkO C sp E vs H1
theorem ps_rzI {fs : List Str} (D : XOw X.K X.mg x C fs) (G : IOk X.prog X.w X.K X.mg X.base k C ps sp) (hr : Room (k + 1) X.A) (tk : Takes X (fun cls d _ H => E cls d H)) (ha : PA X (e :: es) ta) (hc : X.calm = true := by rfl) (hg : Gl X x := by rfl) (hdb : (x == ("__debug__" : Str)) = false := by decide)
    (he : starEach (e :: es) X.env = (false, eval e X.env) :: starEach es X.env := by rfl) (hpl : (backTo pos (starEach es X.env)).any (·.1) = false := by rfl) : PS X (.Raise (some (.Call (.Name x p) (e :: es) [] pos)) none pos') (tRzI C sp ta E) := by
  obtain ⟨fI, fd, F, i, t, b⟩ := G
  exact ps_raise hc tk (pmk_oex D.oex i t F hr b .nil pass0 hg D.g ha hdb he hpl)
/-- the promise of an __init__ that stores one number -/
def sp_xi1 (C : Addr) (f : Str) : Sp := fun vs H Q _ => ∃ (a : Addr) (i : Nat), vs = [.ref a, .int (i : Nat)] ∧ i < 1000000000 ∧ H a = some (exo a C none) ∧ ∀ d, H d = none → d ≠ a → Q .non (upd (upd H d (exd d [(f, .int (i : Nat))])) a (exo a C (some d)))
variable {σ : St} {H : Hp} {D : Ends}
theorem rd_rzI (h : ta σ H fun vs H1 => rMkO C sp E vs H1) : tRzI C sp ta E D σ H := h
theorem del_upd {H : Hp} {a d : Addr} {o1 o2 o3 o4 : HO} (ha : H a = none) (hd : d ≠ a) : upd (del (upd (upd (upd H a o1) d o2) a o3) a) d o4 = upd H d o4 := by
  funext b
  by_cases h1 : b = d
  · subst h1; rw [upd_same, upd_same]
  · rw [upd_ne h1, upd_ne h1]
    by_cases h2 : b = a
    · subst h2; rw [del_same, ha]
    · rw [del_ne h2, upd_ne h2, upd_ne h1, upd_ne h2]
theorem rd_mk1 {i : Nat} (hi : i < 1000000000) (h : ∀ d, H d = none → E (.ref C) (some d) (upd H d (.xd [(f, .int (i : Nat))]))) : rMkO C (sp_xi1 C f) E [.int (i : Nat)] H := by
  refine ⟨by show 1 ≤ 1000; decide, fun a ha => ⟨a, i, rfl, hi, upd_same, fun d hd hn => ⟨rfl, d, [(f, .int (i : Nat))], upd_same, ?_, ?_, ?_⟩⟩⟩
  · rw [upd_ne hn, upd_same]
  · rw [upd_ne hn] at hd; exact hd
  · rw [del_upd ha hn]
    rw [upd_ne hn] at hd
    exact h d hd
end
end L2.Px
set_option Elab.async false
set_option linter.all false
set_option maxRecDepth 100000
set_option maxHeartbeats 2000000
namespace L2.Px
open PySem PySem.Spec PyProof.Rows StX ClX LamX
/-- e is of the i-th kind of Cs -/
structure RzC (K : PySem.W.Frag) (CT : Addr) (Cs : List Addr) (i : Nat) (D : Addr) : Prop where
  isi : ExcC K D
  exm : PySem.W.exmOne K (.ref D) (.ref CT) = some true
  ve : PySem.W.kitOne K (.ref D) (.type "ValueError") = some true
  kit : ∀ (j : Nat) C, Cs[j]? = some C → PySem.W.kitOne K (.ref D) (.ref C) = some (decide (j = i))
/-- .. and tells a number in its field f -/
structure RzF (K : PySem.W.Frag) (D : Addr) (f : Str) : Prop where
  xf : XfC K D
  no : PySem.W.findIn K (.ref D) f = some none
def rzW : List Str := ["step", "changes", "long", "place", "key", "letter", "number"]
/-- what _law_raised answers of the exception of the class cls, its dict d -/
def RzAns (K : PySem.W.Frag) (CT : Addr) (Cs : List Addr) (cls : Value) (d : Option Addr) (H : Hp) (Q : VK) : Prop := ∃ (i : Nat) (D : Addr) (w : Str), cls = .ref D ∧ RzC K CT Cs i D ∧ rzW[i]? = some w ∧
  ((i < 2 ∧ RzF K D "index" ∧ ∃ (dd : Addr) (n : Int) (fs : List (Str × V)), d = some dd ∧ H dd = some (.xd fs) ∧ fs.lookup ("index" : Str) = some (.int n) ∧ ∀ p H', Same H H' → H' p = some (.tup [.str w, .int n]) → Q (.ref p) H') ∨
    (¬ i < 2 ∧ d = none ∧ ∀ p H', Same H H' → H' p = some (.tup [.str w]) → Q (.ref p) H'))
theorem RzAns.dict {K : PySem.W.Frag} {CT : Addr} {Cs : List Addr} {cls : Value} {d : Option Addr} {H : Hp} {Q : VK} (h : RzAns K CT Cs cls d H Q) : d = none ∨ ∃ dd fs, d = some dd ∧ H dd = some (.xd fs) := by
  obtain ⟨i, D, w, _, _, _, ⟨_, _, dd, n, fs, e, hx, _⟩ | ⟨_, e, _⟩⟩ := h
  · exact .inr ⟨dd, fs, e, hx⟩
  · exact .inl e
end L2.Px
set_option Elab.async false
set_option linter.all false
set_option maxRecDepth 100000
set_option maxHeartbeats 1000000
namespace L2.Px
open PySem PySem.Spec PyProof.Rows StX ClX LamX
/-- the tables of all defs of the top are empty -/
def AllTab (q : Program) (K : PySem.W.Frag) (mg : Str → Option Value) (h : Heap) : Prop := ∀ (x : Str) (f : Addr), ((recsOf q).any fun e => e.name == x) = true → mg x = some (.ref f) → OwnTab K f h
theorem walk_ofT {l : PySem.W.OpenLaw} {n k : Nat} {q : Program} {loose : List Str} {XP : (Str → Option Value) → Heap → Prop} {YP : World → Heap → Prop} {d : DefRec} {K : Params → PySem.W.Frag} {x : Str}
    (hn : l.most = some n) (hn2 : n ≤ sizeLine) (hdf : d.params.defaults = []) (hr : Room k callerA) (hY : ∀ (w : World) (h : Heap), YP w h → (K w.params).In h)
    (F : ∀ (w : World) (mg : Str → Option Value) (fa : Addr) (h : Heap), (K w.params).In h → h.Ns mainGlobals mg → XP mg h → mg d.name = some (.ref fa) → AllTab q (K w.params) mg h → LawAtS l w (K w.params) CX0 k n x mg fa h) :
    PySem.W.WalkO q loose XP YP l.row.toRowW d [] (fun f vs => PySem.call f vs) := by
  refine Att.attach_callB hn hdf fun w s0 s1 mg mb fa o pm cd doc a vs ns G Y ho hd hcd hmg hobj hints hlen hbits hg => ?_
  have KX := hY w _ Y
  have tabs : AllTab q (K w.params) mg s1.heap := fun y f hy hf c P o1 fd1 e dd ws sl k1 k2 k3 k4 k5 => by
    obtain ⟨dL, hm, hq⟩ := List.any_eq_true.mp hy
    obtain ⟨a', o', fd', c', P', h1, h2, h3, h4, h5, ⟨oc, vc, e1, _, e3, e4⟩, hP⟩ := G.T.tab dL hm
    rw [beq_iff_eq.mp hq, hf] at h1
    cases h1
    cases (KX _ _ k1).symm.trans h2
    cases k2.symm.trans h3
    cases k3.symm.trans h4
    cases (KX _ _ k4).symm.trans e1
    cases e3
    cases k5.symm.trans e4
    exact hP
  obtain ⟨fd, cs, sp, hT, nT, C, hb, hsp, hF⟩ := F w mg fa _ KX G.T.g G.X hmg tabs
  exact law_callTs KX G.T.g G.T.b G.T.builtins G.T.nolimit hg hT nT C G.T.bmain hobj hints (Nat.le_trans hlen hn2) hr hF hb (fun H hH hS => hsp H a ns hlen hbits hH hS) fun _ _ _ z => z
section
variable {K : PySem.W.Frag} {h : Heap} {mg : Str → Option Value} {x qual : Str} {st : Stmt} {ps : List Str} {f c P : Addr} {q : Program}
/-- the def object at f, its code object at c -/
def AtC (K : PySem.W.Frag) (x qual : Str) (st : Stmt) (c f : Addr) : Prop := ∃ (oc : Value) (od : Option Addr) (kV dc pm : Value) (an : Option Addr) (ct : Value) (sl : Array (Option Value)), K.lookup f = some ⟨oc, od, .func (PySem.W.fnOf x qual (defArgs st) (defBody st) (defScope st) .none kV dc pm an (.ref c) ct), sl⟩ ∧ PySem.W.codeIn K (.ref c) qual = true
theorem atC {oc : Value} {od : Option Addr} {kV dc pm : Value} {an : Option Addr} {ct : Value} {sl : Array (Option Value)} (l : K.lookup f = some ⟨oc, od, .func (PySem.W.fnOf x qual (defArgs st) (defBody st) (defScope st) .none kV dc pm an (.ref c) ct), sl⟩) (hc : PySem.W.codeIn K (.ref c) qual = true) : AtC K x qual st c f := ⟨oc, od, kV, dc, pm, an, ct, sl, l, hc⟩
theorem defGC_mk (X : K.In h) (G : h.Ns mainGlobals mg) (a : PySem.W.nsIn K mainGlobals x = some (some (.ref f))) (l : AtC K x x st c f) (k : PySem.W.keepIn K (.ref f) = true) (b : BF x x st ps) : DefGC K mg x st ps c := by
  obtain ⟨oc, od, kV, dc, pm, an, ct, sl, l, hc⟩ := l
  exact ⟨f, _, ⟨⟨oc, od, kV, dc, pm, an, ct, sl, rfl, l, hc⟩, k⟩, PySem.W.mg_of X G a, fun s us _ hl => .of_eq (by rw [List.append_nil] at *; exact b kV dc pm an (.ref c) ct us (by simpa using hl))⟩
/-- the code object at c has its table at P, outside K -/
structure TabC (K : PySem.W.Frag) (c P : Addr) : Prop where
  hd : PySem.W.codeHdIn K c P = true
  no : K.lookup P = none
  at_ : ∃ (e : Value) (dd : Option Addr) (vs : Array Value) (sl : Array (Option Value)), K.lookup c = some ⟨e, dd, .fields vs, sl⟩ ∧ vs[11]? = some (.ref P)
theorem tabC_mk {e : Value} {dd : Option Addr} {vs : Array Value} {sl : Array (Option Value)} (l : K.lookup c = some ⟨e, dd, .fields vs, sl⟩) (v : vs[11]? = some (.ref P)) (hd : PySem.W.codeHdIn K c P = true) (no : K.lookup P = none) : TabC K c P := ⟨hd, no, e, dd, vs, sl, l, v⟩
theorem TabC.empty (t : TabC K c P) (A : AllTab q K mg h) (D : DefGC K mg x st ps c) (hx : ((recsOf q).any fun e => e.name == x) = true) : h.get? P = some { cls := .none, data := .fields #[] } := by
  obtain ⟨f, fd, F, hm, _⟩ := D
  obtain ⟨oc, od, kV, doc, pm, an, ct, osl, rfl, lk, _⟩ := F.ex
  obtain ⟨e, dd, vs, sl, l, v⟩ := t.at_
  exact A x f hx hm c P _ _ e dd vs sl lk rfl rfl l v
end
end L2.Px
set_option Elab.async false
set_option linter.all false
set_option maxRecDepth 100000
set_option maxHeartbeats 1000000
namespace L2.Px
open PySem PySem.Spec PyProof.Rows StX TL
/-- how often k stands ahead of place p -/
def cn (ss : List Stp) (p k : Nat) : Nat := ((ks ss).take p).count k
/-- .. of all keys -/
def cnt (ss : List Stp) (p : Nat) : List Nat := (List.range (tyL ss).length).map (cn ss p)
theorem cnt_len (ss : List Stp) (p : Nat) : (cnt ss p).length = (tyL ss).length := by simp [cnt]
theorem cnt_get {ss : List Stp} {p k : Nat} (h : k < (tyL ss).length) : (cnt ss p)[k]? = some (cn ss p k) := by
  simp [cnt, h]
theorem cn_zero (ss : List Stp) (k : Nat) : cn ss 0 k = 0 := by simp [cn]
theorem cnt_zero (ss : List Stp) : cnt ss 0 = List.replicate (tyL ss).length 0 := by
  apply List.ext_getElem
  · simp [cnt]
  · intro i h1 h2; simp [cnt, cn]
theorem count_take_split (l : List Nat) (k : Nat) {a b : Nat} (h : a ≤ b) : (l.take b).count k = (l.take a).count k + ((l.drop a).take (b - a)).count k := by
  have e : l.take b = l.take a ++ (l.drop a).take (b - a) := by
    have := List.take_add (l := l) (i := a) (j := b - a)
    rw [show a + (b - a) = b by omega] at this
    exact this
  rw [e, List.count_append]
theorem cn_mono (ss : List Stp) (k : Nat) {a b : Nat} (h : a ≤ b) : cn ss a k ≤ cn ss b k := by
  unfold cn; rw [count_take_split _ _ h]; omega
theorem cn_le (ss : List Stp) (p k : Nat) : cn ss p k ≤ p := by
  unfold cn
  exact Nat.le_trans List.count_le_length (by rw [List.length_take]; omega)
theorem cn_succ {ss : List Stp} (ok : okFrom 0 ss) {p : Nat} (h : p < sz ss) (k : Nat) : cn ss (p + 1) k = cn ss p k + if kat ss p = k then 1 else 0 := by
  unfold cn
  rw [List.take_add_one, kat_some ok h, List.count_append]
  simp [List.count_cons, beq_iff_eq]
theorem count_flat_take (l : List Nat) (k : Nat) (hl : 0 < l.length) : ∀ (t n : Nat), n ≤ t * l.length → ((List.replicate t l).flatten.take n).count k = (n / l.length) * l.count k + (l.take (n % l.length)).count k
  | 0, n, h => by
    have : n = 0 := by omega
    subst this; simp
  | t + 1, n, h => by
    rw [List.replicate_succ, List.flatten_cons]
    by_cases hn : n < l.length
    · rw [List.take_append_of_le_length (by omega), Nat.div_eq_of_lt hn, Nat.mod_eq_of_lt hn]; omega
    · have hn' : l.length ≤ n := by omega
      rw [List.take_append, List.count_append, List.take_of_length_le hn', count_flat_take l k hl t (n - l.length) (by rw [Nat.succ_mul] at h; omega)]
      obtain ⟨m, rfl⟩ : ∃ m, n = m + l.length := ⟨n - l.length, by omega⟩
      rw [Nat.add_sub_cancel, Nat.add_div_right _ hl, Nat.add_mod_right, Nat.succ_mul]; omega
section
variable {ss : List Stp} {j : Nat}
theorem ks_split (ss : List Stp) (j : Nat) (ok : okFrom 0 ss) {p : Nat} (h : p ≤ sz (ss.take j)) : (ks ss).take p = (ks (ss.take j)).take p := by
  obtain ⟨m, e⟩ := ks_pre (ss.take j) (ss.drop j)
  rw [List.take_append_drop] at e
  rw [e, List.take_append_of_le_length (by rw [ks_len (ok_take ok j)]; exact h)]
theorem cn_take (ok : okFrom 0 ss) {p : Nat} (h : p ≤ sz (ss.take j)) (k : Nat) : cn ss p k = cn (ss.take j) p k := by
  unfold cn; rw [ks_split ss j ok h]
theorem cn_wr {w : Str} (ok : okFrom 0 ss) (h : ss[j]? = some (.wr w)) {p : Nat} (h1 : sz (ss.take j) ≤ p) (h2 : p ≤ sz (ss.take (j + 1))) (k : Nat) :
    cn ss p k = cn ss (sz (ss.take j)) k + if (tyL (ss.take j)).length ≤ k ∧ k < (tyL (ss.take j)).length + (p - sz (ss.take j)) then 1 else 0 := by
  have hs := sz_take h
  simp only [len1] at hs
  have e1 := cn_take (j := j + 1) ok h2 k
  have e2 := cn_take (j := j + 1) ok (p := sz (ss.take j)) (by omega) k
  rw [e1, e2]
  unfold cn
  rw [count_take_split _ _ h1, ks_take_wr h]
  have el : (ks (ss.take j)).length = sz (ss.take j) := ks_len (ok_take ok j)
  rw [List.drop_append_of_le_length (by omega), List.drop_of_length_le (by omega), List.nil_append, List.take_range'_of_length_ge (by omega)]
  congr 1
  rw [List.count_range']
  have e : (∃ i, i < p - sz (ss.take j) ∧ k = (tyL (ss.take j)).length + i) ↔ (tyL (ss.take j)).length ≤ k ∧ k < (tyL (ss.take j)).length + (p - sz (ss.take j)) :=
    ⟨fun ⟨i, a, b⟩ => by omega, fun ⟨a, b⟩ => ⟨k - (tyL (ss.take j)).length, by omega, by omega⟩⟩
  simp only [Nat.one_mul, e]
theorem cn_pa {f l t : Nat} (ok : okFrom 0 ss) (h : ss[j]? = some (.pa f l t)) {p : Nat} (h1 : sz (ss.take j) ≤ p) (h2 : p ≤ sz (ss.take (j + 1))) (k : Nat) :
    (cn ss p k : Int) = (cn ss (sz (ss.take j)) k : Int) + ((p - sz (ss.take j)) / (l - f + 1) : Nat) * ((cn ss (l + 1) k : Int) - cn ss f k) + cn ss (f + (p - sz (ss.take j)) % (l - f + 1)) k - cn ss f k := by
  obtain ⟨⟨a1, a2, a3, a4⟩, _⟩ := ok_at ok h
  have hs := sz_take h
  simp only [len1] at hs
  have hm : (p - sz (ss.take j)) % (l - f + 1) < l - f + 1 := Nat.mod_lt _ (by omega)
  have e1 := cn_take (j := j + 1) ok h2 k
  have e2 := cn_take (j := j + 1) ok (p := sz (ss.take j)) (by omega) k
  have e3 := cn_take (j := j) ok (p := l + 1) (by omega) k
  have e4 := cn_take (j := j) ok (p := f) (by omega) k
  have e5 := cn_take (j := j) ok (p := f + (p - sz (ss.take j)) % (l - f + 1)) (by omega) k
  rw [e1, e2, e3, e4, e5]
  have el : (ks (ss.take j)).length = sz (ss.take j) := ks_len (ok_take ok j)
  unfold cn
  have hdrop : ∀ B : List Nat, (ks (ss.take j) ++ B).drop (sz (ss.take j)) = B := fun B => by
    rw [List.drop_append_of_le_length (by omega), List.drop_of_length_le (by omega), List.nil_append]
  have htake : ∀ B : List Nat, (ks (ss.take j) ++ B).take (sz (ss.take j)) = (ks (ss.take j)).take (sz (ss.take j)) := fun B => List.take_append_of_le_length (by omega)
  rw [count_take_split (ks (ss.take (j + 1))) k h1, ks_take_pa h, hdrop, htake]
  have hlen : (((ks (ss.take j)).drop f).take (l - f + 1)).length = l - f + 1 := by rw [List.length_take, List.length_drop, el]; omega
  rw [count_flat_take _ k (by omega) t _ (by rw [hlen, Nat.mul_comm]; omega), hlen]
  rw [List.take_take, Nat.min_eq_left (Nat.le_of_lt hm)]
  have s1 := count_take_split (ks (ss.take j)) k (a := f) (b := l + 1) (by omega)
  rw [show l + 1 - f = l - f + 1 by omega] at s1
  have s2 := count_take_split (ks (ss.take j)) k (a := f) (b := f + (p - sz (ss.take j)) % (l - f + 1)) (by omega)
  rw [Nat.add_sub_cancel_left] at s2
  rw [s1, s2]
  simp only [Int.natCast_add, Int.natCast_mul]
  rw [show (((ks (ss.take j)).take f).count k : Int) + (((ks (ss.take j)).drop f).take (l - f + 1)).count k - ((ks (ss.take j)).take f).count k = ((((ks (ss.take j)).drop f).take (l - f + 1)).count k : Int) by omega]
  omega
end
end L2.Px
set_option Elab.async false
set_option linter.all false
set_option maxRecDepth 100000
set_option maxHeartbeats 1000000
namespace L2.Px
open PySem PySem.Spec PyProof.Rows StX TL
/-- a walk of n turns whose i-th item is a new tuple of it i -/
structure Pairy (J : It) (n : Nat) (it : Nat → List V) (H1 : Hp) : Prop where
  stop : ∀ H, Same H1 H → J.stop n H
  go : ∀ i H, Same H1 H → i < n → J.go i H
  yld : ∀ i H x H', Same H1 H → i < n → J.yld i H x H' → ∃ T, H T = none ∧ H' = upd H T (.tup (it i)) ∧ x = .ref T
theorem pairy_zip {K : PySem.W.Frag} {a b : Addr} {xs ys : List V} {H1 : Hp} (ha : SqL K H1 a xs) (hb : SqL K H1 b ys) : Pairy (Itz K a b) (min xs.length ys.length) (fun i => [(xs[i]?).getD .non, (ys[i]?).getD .non]) H1 where
  stop := fun H s => ⟨xs, ys, s.seq ha, s.seq hb, by omega⟩
  go := fun i H s hi => ⟨xs, ys, _, _, s.seq ha, s.seq hb, List.getElem?_eq_getElem (by omega), List.getElem?_eq_getElem (by omega)⟩
  yld := fun i H x H' s hi y => by
    obtain ⟨T, u, v, e1, e2, e3, e4, e5⟩ := y
    exact ⟨T, e2, by rw [e3, e4 xs (s.seq ha), e5 ys (s.seq hb)]; rfl, e1⟩
theorem pairy_enum {K : PySem.W.Frag} {a : Addr} {xs : List V} {H1 : Hp} (ha : SqL K H1 a xs) : Pairy (Ite K a) xs.length (fun i => [.int (i : Nat), (xs[i]?).getD .non]) H1 where
  stop := fun H s => ⟨xs, s.seq ha, Nat.le_refl _⟩
  go := fun i H s hi => ⟨xs, _, s.seq ha, List.getElem?_eq_getElem hi⟩
  yld := fun i H x H' s hi y => by
    obtain ⟨T, u, e1, e2, e3, e4⟩ := y
    exact ⟨T, e2, by rw [e3, e4 xs (s.seq ha)]; rfl, e1⟩
/-- [e for a, b in ..] -/
theorem lc_pair {K : PySem.W.Frag} {J : It} {n m : Nat} {it : Nat → List V} {H1 : Hp} {te : TE} {vs : List Nat} {σ : St} {D : Addr} {Qd : Hp → Prop} {j1 j2 : Nat} (x y : Nat → V) (P : Pairy J n it H1) (hD : H1 D = none) (hn : n ≤ sizeLine) (h2 : m = 2) (hit : ∀ i, i < n → it i = [x i, y i])
    (hj : ∀ v u, wipe (((wipe σ vs).set j1 (some v)).set j2 (some u)) vs = wipe σ vs) (f : Nat → V)
    (hs : ∀ i H (Q : VK), i < n → Same H1 H → (∀ H', Same H H' → Q (f i) H') → te (((wipe σ vs).set j1 (some (x i))).set j2 (some (y i))) H Q)
    (hd : ∀ H, Same H1 H → H D = some (.lst ((List.range n).map f)) → Qd H) : LcW J (gTup K m (gCons (gName j1) (gCons (gName j2) gNil))) tYes te vs σ H1 D Qd := by
  refine ⟨fun i m H => m = n - i ∧ i ≤ n ∧ Same H1 H ∧ H D = some (.lst ((List.range i).map f)), ⟨_, rfl, Nat.zero_le _, Same.new (Same.refl _) hD, upd_same⟩, ?_⟩
  rintro i m H ⟨rfl, hi, S, eD⟩
  by_cases hlt : i < n
  · refine .inr ⟨P.go i H S hlt, fun H' => i + 1 ≤ n ∧ Same H1 H' ∧ H' D = some (.lst ((List.range (i + 1)).map f)), fun H' z => ⟨n - (i + 1), by omega, rfl, z⟩, fun z H' q => ?_⟩
    obtain ⟨T, hT, e1, e2⟩ := P.yld i H z H' S hlt q
    subst e1 e2
    rw [hit i hlt]
    refine rd_gtup (SqT.of upd_same) h2.symm (rd_gcons (rd_name (rd_gcons (rd_name (rd_gnil ⟨hj _ _, rd_yes (iteT ?_)⟩)))))
    have S1 : Same H (upd H T (.tup [x i, y i])) := Same.new (Same.refl _) hT
    refine hs i _ _ hlt (S.trans S1) fun H2 S2 => ⟨_, S2 _ _ (S1 _ _ eD), by rw [List.length_map, List.length_range]; omega, hlt, Same.mut ((S.trans S1).trans S2) hD, ?_⟩
    rw [upd_same, List.range_succ, List.map_append]
    rfl
  · have e : i = n := by omega
    subst e
    exact .inl ⟨P.stop H S, hd H S eD⟩
/-- for a, b in .. -/
theorem for_pair {J : It} {n : Nat} {it : Nat → List V} {g : TG} {tb : TS} {D : Ends} {σ : St} {H : Hp} (Pv : Nat → St → Hp → Prop) (h0 : Pv 0 σ H) (hl : ∀ i σ H, i ≤ n → Pv i σ H → Pairy J n it H)
    (hs : ∀ i T σ H, i < n → Pv i σ H → H T = none → g (.ref T) σ (upd H T (.tup (it i))) fun σ2 H2 => tb { D with nx := Pv (i + 1), ct := Pv (i + 1), bk := D.nx } σ2 H2) (hd : ∀ σ H, Pv n σ H → D.nx σ H) : ForW J g tb D σ H := by
  refine ⟨fun i m σ H => m = n - i ∧ i ≤ n ∧ Pv i σ H, ⟨n, by simp, Nat.zero_le _, h0⟩, ?_⟩
  rintro i m σ H ⟨rfl, hi, p⟩
  have q := hl i σ H hi p
  by_cases hlt : i < n
  · refine .inr ⟨q.go i H (Same.refl _) hlt, Pv (i + 1), fun σ' H' p' => ⟨n - (i + 1), by omega, rfl, hlt, p'⟩, fun x H' y => ?_⟩
    obtain ⟨T, hT, e1, e2⟩ := q.yld i H x H' (Same.refl _) hlt y
    subst e1 e2
    exact hs i T σ H hlt p hT
  · have e : i = n := by omega
    subst e
    exact .inl ⟨q.stop H (Same.refl _), hd σ H p⟩
section
variable {X : Cx} {K : PySem.W.Frag}
def rGetL (K : PySem.W.Frag) : V → V → Hp → VK → Prop := fun x y H Q => ∃ (p : Addr) (xs : List V) (i : Nat) (v : V), x = .ref p ∧ y = .int i ∧ SqL K H p xs ∧ xs[i]? = some v ∧ Q v H
theorem pget_list (hk : X.K = K) : PGet X (rGetL K) := by
  subst hk
  intro pins s σ H o i ov iv Q I r1 r2 h
  obtain ⟨p, xs, j, v, rfl, rfl, hq, he, q⟩ := h
  cases r1
  obtain ⟨t, rfl⟩ := r2
  obtain ⟨its, r, pl, hz⟩ := I.list hq
  obtain ⟨w, ew, rw'⟩ := r.get he
  have hl := r.length
  have hn := line63
  have hj : j < xs.length := (List.getElem?_eq_some_iff.mp he).1
  exact wpAny_getItem_list pl.isList (by omega) (by omega) (by simpa using ew) ⟨v, H, I, rw', q⟩
variable {σ : St} {H : Hp} {to ti te : TE} {tget : V → V → Hp → VK → Prop} {tip : TIp} {tset : TSet} {nx ct bk : St → Hp → Prop} {rt : VK}
theorem rd_getL {a : Addr} {xs : List V} {j : Nat} {v : V} {Q : VK} (h : SqL K H a xs) (e : xs[j]? = some v) (q : Q v H) : rGetL K (.ref a) (.int j) H Q := ⟨a, xs, j, v, rfl, rfl, h, e, q⟩
def rDivm : List V → Hp → VK → Prop := fun xs H Q => ∃ i j, xs = [.int i, .int j] ∧ CDivP i j ∧ ∀ p, H p = none → Q (.ref p) (upd H p (.tup [.int (i / j), .int (i % j)]))
theorem cDivm : CallR X (.builtin "divmod") rDivm := call_divmodW
theorem rd_divm {i j : Int} {Q : VK} (hc : CDivP i j) (q : ∀ p H', Same H H' → H' p = some (.tup [.int (i / j), .int (i % j)]) → Q (.ref p) H') : rDivm [.int i, .int j] H Q := ⟨i, j, rfl, hc, new_of q⟩
end
theorem bits_small {i : Int} (h0 : 0 ≤ i) (h1 : i ≤ 1000000000000000000) : Builtin.Int.intBits i ≤ 4000 := by
  unfold Builtin.Int.intBits
  split
  · omega
  · rename_i h
    have h2 : i.natAbs ≠ 0 := fun z => h (by simpa using Int.natAbs_eq_zero.mp z)
    have : i.natAbs.log2 < 60 := (Nat.log2_lt h2).mpr (by omega)
    omega
theorem divp_small {i j : Int} (hj : 0 < j) (h0 : 0 ≤ i) (h1 : i ≤ 1000000000000000000) : CDivP i j := divp_ok hj (Nat.le_trans (bits_small h0 h1) (Nat.le_add_left _ _))
end L2.Px
set_option Elab.async false
set_option linter.all false
set_option maxRecDepth 100000
set_option maxHeartbeats 1000000
namespace L2.Px
open PySem PySem.Spec PyProof.Rows StX TL
theorem nodup_len {α : Type} [DecidableEq α] : ∀ {l m : List α}, l.Nodup → (∀ x ∈ l, x ∈ m) → l.length ≤ m.length
  | [], m, _, _ => Nat.zero_le _
  | x :: l, m, h, hs => by
    obtain ⟨h1, h2⟩ := List.nodup_cons.mp h
    have hx := hs x List.mem_cons_self
    have := nodup_len (l := l) (m := m.erase x) h2 fun y hy => by
      have hne : y ≠ x := fun z => h1 (z ▸ hy)
      exact (List.mem_erase_of_ne hne).mpr (hs y (List.mem_cons_of_mem _ hy))
    rw [List.length_erase_of_mem hx] at this
    have := List.length_pos_of_mem hx
    simp only [List.length_cons]
    omega
theorem flat_len {α β : Type} (f : α → List β) (b : Nat) : ∀ l : List α, (∀ x ∈ l, (f x).length ≤ b) → (l.flatMap f).length ≤ b * l.length
  | [], _ => by simp
  | x :: l, h => by
    rw [List.flatMap_cons, List.length_append, List.length_cons, Nat.mul_succ]
    have := h x List.mem_cons_self
    have := flat_len f b l fun y hy => h y (List.mem_cons_of_mem _ hy)
    omega
def cs1 (ss : List Stp) (j : Nat) : List Nat := match ss[j]? with
  | some (.pa f l _) => [sz (ss.take j), f, l + 1]
  | _ => [sz (ss.take j)]
def consts (ss : List Stp) : List Nat := 0 :: (List.range ss.length).flatMap (cs1 ss)
theorem consts_len (ss : List Stp) : (consts ss).length ≤ 3 * ss.length + 1 := by
  have := flat_len (cs1 ss) 3 (List.range ss.length) fun j _ => by unfold cs1; split <;> simp
  rw [List.length_range] at this
  simp only [consts, List.length_cons]; omega
def phi (ss : List Stp) (x : Nat) : Nat := match (List.range ss.length).find? (fun j => decide (sz (ss.take j) < x ∧ x ≤ sz (ss.take (j + 1)))) with
  | some j => (match ss[j]? with
    | some (.pa f l _) => f + (x - sz (ss.take j)) % (l - f + 1)
    | _ => 0)
  | none => 0
def itn (ss : List Stp) : Nat → Nat → Nat
  | 0, x => x
  | i + 1, x => phi ss (itn ss i x)
def Reach (ss : List Stp) (qs : List Nat) (x n : Nat) : Prop := ∃ c ∈ consts ss ++ qs, ∃ i, i + n ≤ 31 ∧ x = itn ss i c
def reachL (ss : List Stp) (qs : List Nat) : List Nat := (consts ss ++ qs).flatMap fun c => (List.range 32).map fun i => itn ss i c
theorem reachL_len (ss : List Stp) (qs : List Nat) : (reachL ss qs).length ≤ 32 * (3 * ss.length + 1 + qs.length) := by
  have := flat_len (fun c => (List.range 32).map fun i => itn ss i c) 32 (consts ss ++ qs) fun c _ => by simp
  have h := consts_len ss
  rw [List.length_append] at this
  unfold reachL
  omega
theorem Reach.mem {ss : List Stp} {qs : List Nat} {x n : Nat} (h : Reach ss qs x n) : x ∈ reachL ss qs := by
  obtain ⟨c, hc, i, hi, rfl⟩ := h
  exact List.mem_flatMap.mpr ⟨c, hc, List.mem_map.mpr ⟨i, List.mem_range.mpr (by omega), rfl⟩⟩
theorem reach_mono {ss : List Stp} {qs : List Nat} {q x : Nat} (h : x ∈ reachL ss qs) : x ∈ reachL ss (q :: qs) := by
  obtain ⟨c, hc, h2⟩ := List.mem_flatMap.mp h
  refine List.mem_flatMap.mpr ⟨c, ?_, h2⟩
  rcases List.mem_append.mp hc with hc | hc
  · exact List.mem_append_left _ hc
  · exact List.mem_append_right _ (List.mem_cons_of_mem _ hc)
theorem reach_q {ss : List Stp} {qs : List Nat} {q n : Nat} (hn : n ≤ 31) : Reach ss (q :: qs) q n := ⟨q, List.mem_append_right _ List.mem_cons_self, 0, by omega, rfl⟩
theorem reach_c {ss : List Stp} {qs : List Nat} {j x n : Nat} (hj : j < ss.length) (hx : x ∈ cs1 ss j) (hn : n ≤ 31) : Reach ss qs x n :=
  ⟨x, List.mem_append_left _ (List.mem_cons_of_mem _ (List.mem_flatMap.mpr ⟨j, List.mem_range.mpr hj, hx⟩)), 0, by omega, rfl⟩
theorem sz_take_mono {ss : List Stp} {i j : Nat} (h : i ≤ j) : sz (ss.take i) ≤ sz (ss.take j) := by
  have := sz_take_le (ss := ss.take j) i
  rwa [take_take_le h] at this
theorem phi_at {ss : List Stp} {j f l t x : Nat} (h : ss[j]? = some (.pa f l t)) (h1 : sz (ss.take j) < x) (h2 : x ≤ sz (ss.take (j + 1))) : phi ss x = f + (x - sz (ss.take j)) % (l - f + 1) := by
  have hj : j < ss.length := (List.getElem?_eq_some_iff.mp h).1
  have e : (List.range ss.length).find? (fun j => decide (sz (ss.take j) < x ∧ x ≤ sz (ss.take (j + 1)))) = some j := by
    rw [List.find?_range_eq_some]
    refine ⟨by simpa using ⟨h1, h2⟩, List.mem_range.mpr hj, fun i hi => ?_⟩
    have := sz_take_mono (ss := ss) (show i + 1 ≤ j by omega)
    simp
    omega
  unfold phi
  rw [e]
  simp only [h]
theorem reach_phi {ss : List Stp} {qs : List Nat} {j f l t x n : Nat} (h : ss[j]? = some (.pa f l t)) (h1 : sz (ss.take j) < x) (h2 : x ≤ sz (ss.take (j + 1))) (r : Reach ss qs x (n + 1)) : Reach ss qs (f + (x - sz (ss.take j)) % (l - f + 1)) n := by
  obtain ⟨c, hc, i, hi, e⟩ := r
  refine ⟨c, hc, i + 1, by omega, ?_⟩
  rw [← phi_at h h1 h2, e]; rfl
/-- the part in which x ends -/
theorem part_of {ss : List Stp} : ∀ {n x : Nat}, 1 ≤ x → x ≤ sz (ss.take n) → ∃ j, j < n ∧ j < ss.length ∧ sz (ss.take j) < x ∧ x ≤ sz (ss.take (j + 1))
  | 0, x, h1, h2 => by simp [sz] at h2; omega
  | n + 1, x, h1, h2 => by
    by_cases h : x ≤ sz (ss.take n)
    · obtain ⟨j, a, b⟩ := part_of h1 h
      exact ⟨j, by omega, b⟩
    · have hn : n < ss.length := by
        rcases Nat.lt_or_ge n ss.length with z | z
        · exact z
        · rw [List.take_of_length_le (by omega)] at h h2
          exact absurd h2 h
      exact ⟨n, by omega, hn, by omega, h2⟩
theorem filter_pre {n j : Nat} {q : Nat → Bool} (hj : j < n) (h : ∀ i, i < n → (q i = true ↔ i ≤ j)) : (List.range n).filter q = List.range (j + 1) := by
  have e : List.range n = List.range (j + 1) ++ (List.range (n - (j + 1))).map (j + 1 + ·) := by
    rw [← List.range_add]; congr 1; omega
  rw [e, List.filter_append, List.filter_eq_self.mpr, List.filter_eq_nil_iff.mpr, List.append_nil]
  · intro x hx
    obtain ⟨y, hy, rfl⟩ := List.mem_map.mp hx
    rw [List.mem_range] at hy
    intro z
    have := (h _ (by omega)).mp z
    omega
  · intro x hx
    rw [List.mem_range] at hx
    exact (h x (by omega)).mpr (by omega)
def counterF (a d : Addr) : List (Str × V) := putF "known" (.ref d) (putF "text" (.ref a) [])
theorem counterF_known {a d : Addr} : (counterF a d).lookup ("known" : Str) = some (.ref d) := by unfold counterF; rw [lookup_putF, if_pos rfl]
theorem counterF_text {a d : Addr} : (counterF a d).lookup ("text" : Str) = some (.ref a) := by
  unfold counterF; rw [lookup_putF, if_neg (by decide +kernel), lookup_putF, if_pos rfl]
theorem counterF_no {a d : Addr} {x : Str} (h : x ≠ "known" ∧ x ≠ "text") : (counterF a d).lookup x = none := by
  unfold counterF; rw [lookup_putF, if_neg h.1, lookup_putF, if_neg h.2]; rfl
/-- what is remembered: for places, the counts ahead of them -/
structure Known (H : Hp) (d : Addr) (ss : List Stp) (qs : List Nat) (av : Addr → Prop) : Prop where
  ex : ∃ kvs : List (Key × V), H d = some (.dK kvs) ∧ (kvs.map (·.1)).Nodup ∧ (∃ v, valV kvs (Sum.inl 0 : Key) = some v) ∧
    ∀ kv ∈ kvs, ∃ (x : Nat) (l : Addr), kv = (Sum.inl (x : Int), V.ref l) ∧ x ∈ reachL ss qs ∧ H l = some (.lst (natV (cnt ss x))) ∧ ¬ av l
structure CtAt (K : PySem.W.Frag) (CT CP CC : Addr) (H : Hp) (c a d : Addr) (ss : List Stp) (qs : List Nat) (av : Addr → Prop) : Prop where
  ins : ∃ dx, H c = some (.ins CC dx (counterF a d))
  tx : TX K CT CP H a ss
  kn : Known H d ss qs av
  few : qs.length ≤ 10000
section
variable {K : PySem.W.Frag} {CT CP CC : Addr} {H H' : Hp} {Q : VK} {E : XK} {c a d l : Addr} {ss : List Stp} {qs : List Nat} {q x : Nat} {kvs : List (Key × V)} {av : Addr → Prop}
/-- all but the dict d -/
theorem but_txt {t : TxI} (e : But d H H') (hd : H d = some (.dK kvs)) (h : TextAt K CT CP H a t) : TextAt K CT CP H' a t := by
  have ne : ∀ {b o}, (∀ k, o ≠ HO.dK k) → H b = some o → H' b = some o := fun {b o} ho hb => e b o (fun z => by subst z; rw [hd] at hb; cases hb; exact ho _ rfl) hb
  have f : Free1 H d := ⟨fun xs z => (by rw [hd] at z; cases z), fun o u z => (by rw [hd] at z; cases z)⟩
  exact ⟨ne (fun k z => by cases z) h.ins, e.tup f h.made, e.steps f h.stp, ne (fun k z => by cases z) h.pls, PartsAt.but e (fun dx fs z => by rw [hd] at z; cases z) h.prt, h.ok, h.few⟩
theorem TX.but (h : TX K CT CP H a ss) (e : But d H H') (hd : H d = some (.dK kvs)) : TX K CT CP H' a ss := let ⟨t, T, q⟩ := h; ⟨t, but_txt e hd T, q⟩
theorem but_lst {xs : List V} (e : But d H H') (hd : H d = some (.dK kvs)) (h : H l = some (.lst xs)) : H' l = some (.lst xs) := e _ _ (fun z => by subst z; rw [hd] at h; cases h) h
theorem CtAt.mono (h : CtAt K CT CP CC H c a d ss qs av) (e : Same H H') : CtAt K CT CP CC H' c a d ss qs av := by
  obtain ⟨⟨dx, h1⟩, h2, ⟨kvs, k1, k2, k3, k4⟩, h4⟩ := h
  exact ⟨⟨dx, e _ _ h1⟩, h2.kp (Kp.same e), ⟨kvs, e _ _ k1, k2, k3, fun kv hkv => let ⟨x, l, a, b, c⟩ := k4 kv hkv; ⟨x, l, a, b, e _ _ c.1, c.2⟩⟩, h4⟩
theorem CtAt.query (h : CtAt K CT CP CC H c a d ss qs av) (hq : qs.length < 10000) : CtAt K CT CP CC H c a d ss (q :: qs) av := by
  obtain ⟨h1, h2, ⟨kvs, k1, k2, k3, k4⟩, h4⟩ := h
  exact ⟨h1, h2, ⟨kvs, k1, k2, k3, fun kv hkv => let ⟨x, l, a, b, c⟩ := k4 kv hkv; ⟨x, l, a, reach_mono b, c⟩⟩, by simp; omega⟩
theorem Known.small (h : Known H d ss qs av) (hd : H d = some (.dK kvs)) (hs : ss.length ≤ 30) (hq : qs.length ≤ 10000) : kvs.length < sizeLine := by
  obtain ⟨kvs', k1, k2, k3, k4⟩ := h
  rw [hd] at k1; cases k1
  have := nodup_len (m := (reachL ss qs).map fun (x : Nat) => (Sum.inl (x : Int) : Key)) k2 fun y hy => by
    obtain ⟨kv, hkv, rfl⟩ := List.mem_map.mp hy
    obtain ⟨x, l, rfl, hx, _⟩ := k4 kv hkv
    exact List.mem_map.mpr ⟨x, hx, rfl⟩
  rw [List.length_map, List.length_map] at this
  have h2 := reachL_len ss qs
  rw [sizeLine_eq]; omega
/-- one more place is remembered -/
theorem CtAt.put (h : CtAt K CT CP CC H c a d ss qs av) (hd : H d = some (.dK kvs)) (hn : valV kvs (Sum.inl (x : Int) : Key) = none) (hx : x ∈ reachL ss qs) (hl : H l = some (.lst (natV (cnt ss x)))) (hv : ¬ av l) :
    CtAt K CT CP CC (upd H d (.dK (putK kvs (Sum.inl (x : Int)) (.ref l)))) c a d ss qs av := by
  have B : But d H (upd H d (.dK (putK kvs (Sum.inl (x : Int)) (.ref l)))) := But.at But.refl
  obtain ⟨⟨dx, h1⟩, h2, ⟨kvs', k1, k2, ⟨v, k3⟩, k4⟩, h4⟩ := h
  rw [hd] at k1; cases k1
  refine ⟨⟨dx, B _ _ (fun z => by subst z; rw [hd] at h1; cases h1) h1⟩, h2.but B hd, ⟨_, upd_same, nd_putK _ k2 hn, ?_, fun kv hkv => ?_⟩, h4⟩
  · rw [valV_put]
    split
    · exact ⟨_, rfl⟩
    · exact ⟨v, k3⟩
  · rw [putK_new _ hn] at hkv
    rcases List.mem_append.mp hkv with hkv | hkv
    · obtain ⟨x', l', e1, e2, e3⟩ := k4 kv hkv
      exact ⟨x', l', e1, e2, but_lst B hd e3.1, e3.2⟩
    · cases List.mem_singleton.mp hkv
      exact ⟨x, l, rfl, hx, but_lst B hd hl, hv⟩
theorem Known.get (h : Known H d ss qs av) (hd : H d = some (.dK kvs)) {v : V} (hv : valV kvs (Sum.inl (x : Int) : Key) = some v) : ∃ l, v = .ref l ∧ H l = some (.lst (natV (cnt ss x))) := by
  obtain ⟨kvs', k1, k2, k3, k4⟩ := h
  rw [hd] at k1; cases k1
  unfold valV at hv
  obtain ⟨kv, h1, rfl⟩ := Option.map_eq_some_iff.mp hv
  have h2 := List.find?_some h1
  obtain ⟨x', l, e1, _, e2, _⟩ := k4 kv (List.mem_of_find?_eq_some h1)
  have h3 : kv.1 = Sum.inl (x : Int) := of_decide_eq_true h2
  subst e1
  have : x' = x := by
    have : (x' : Int) = x := Sum.inl.inj h3
    omega
  subst this
  exact ⟨l, rfl, e2⟩
variable (K CT CP CC)
def sp_Counter_init : Sp := fun vs H Q _ => ∃ c dx a ss, vs = [.ref c, .ref a] ∧ H c = some (.ins CC dx []) ∧ TX K CT CP H a ss ∧ ∀ H' d, But c H H' → CtAt K CT CP CC H' c a d ss [] (fun b => H b ≠ none) → H d = none → Q .non H'
def sp_Counter_before (n : Nat) : Sp := fun vs H Q _ => ∃ c a d ss qs av, ∃ x : Nat, vs = [.ref c, .int x] ∧ CtAt K CT CP CC H c a d ss qs av ∧ (∀ b, av b → H b ≠ none) ∧ x ≤ sz (ss.take n) ∧ n ≤ 31 ∧ Reach ss qs x n ∧
  ∀ H' l, But d H H' → CtAt K CT CP CC H' c a d ss qs av → H' l = some (.lst (natV (cnt ss x))) → Q (.ref l) H'
def sp_Counter_counts_before (n : Nat) : Sp := fun vs H Q _ => ∃ c a d ss qs av, ∃ x : Nat, vs = [.ref c, .int x] ∧ CtAt K CT CP CC H c a d ss qs av ∧ (∀ b, av b → H b ≠ none) ∧ 1 ≤ x ∧ x ≤ sz (ss.take n) ∧ n ≤ 31 ∧ Reach ss qs x n ∧
  ∀ H' l, But d H H' → CtAt K CT CP CC H' c a d ss qs av → H' l = some (.lst (natV (cnt ss x))) → H l = none → Q (.ref l) H'
end
end L2.Px
set_option Elab.async false
set_option linter.all false
set_option maxRecDepth 100000
set_option maxHeartbeats 1000000
namespace L2.Px
open PySem PySem.Spec PyProof.Rows StX TL
section
variable {X : Cx} {K : PySem.W.Frag} {ta : TA} {e e2 : Expr} {p pos tpos : Pos} {elts : List Expr} {kk : Nat}
theorem pi_zipK (hk : X.K = K) (hg : Gl X "zip") (hm : X.mg "zip" = none) (ha : PA X [e, e2] ta)
    (hs : starEach [e, e2] X.env = (false, eval e X.env) :: starEach [e2] X.env := by rfl) (hpl : (backTo pos (starEach [e2] X.env)).any (·.1) = false := by rfl) :
    PI X (.Tuple elts kk tpos) (.Call (.Name "zip" p) [e, e2] [] pos) (iZip K ta) := hk ▸ pi_zip hg hm ha hs hpl
theorem pi_enumK (hk : X.K = K) (hg : Gl X "enumerate") (hm : X.mg "enumerate" = none) (ha : PA X [e] ta) (hs : starEach [e] X.env = [(false, eval e X.env)] := by rfl) :
    PI X (.Tuple elts kk tpos) (.Call (.Name "enumerate" p) [e] [] pos) (iEnum K ta) := hk ▸ pi_enum hg hm ha hs
variable {σ : St} {H : Hp} {Rr : It → Hp → Prop} {a b : Addr} {xs ys : List V}
theorem rd_iZip (h : ta σ H fun vs H1 => ∃ a b xs ys, vs = [.ref a, .ref b] ∧ SqL K H1 a xs ∧ SqL K H1 b ys ∧ Rr (Itz K a b) H1) : iZip K ta σ H Rr := h
theorem rd_iEnum (h : ta σ H fun vs H1 => ∃ a xs, vs = [.ref a] ∧ SqL K H1 a xs ∧ Rr (Ite K a) H1) : iEnum K ta σ H Rr := h
variable {td ty tv te : TE} {nx ct bk : St → Hp → Prop} {rt : VK} {tc : TE} {R : Bool → Hp → Prop} {Q : VK}
theorem rd_dget (h : td σ H fun x H1 => ty σ H1 fun y H2 => ∃ a v, x = .ref a ∧ DGet H2 a y (some v) ∧ Q v H2) : tDGet td ty σ H Q := h
theorem rd_dput (h : tv σ H fun v H1 => td σ H1 fun x H2 => ty σ H2 fun y H3 => ∃ a H4, x = .ref a ∧ DPut H3 a y v H4 ∧ nx σ H4) : sDPut td ty tv ⟨nx, rt, bk, ct⟩ σ H := h
theorem rd_dnotin (h : ty σ H fun y H1 => td σ H1 fun x H2 => ∃ a o, x = .ref a ∧ DGet H2 a y o ∧ Q (.bl (!o.isSome)) H2) : tDNotIn ty td σ H Q := h
theorem rd_din (h : ty σ H fun y H1 => td σ H1 fun x H2 => ∃ a o, x = .ref a ∧ DGet H2 a y o ∧ Q (.bl o.isSome) H2) : tDIn ty td σ H Q := h
theorem rd_disp {trs : List (TE × TE)} (h : ∀ p, H p = none → tPairs trs σ (upd H p (.dK [])) fun ps H2 => H2 p = some (.dK []) ∧ ∃ kvs : List (Key × V), ps = kvs.map (fun kv => (kV kv.1, kv.2)) ∧ kvs.length ≤ 15 ∧ Q (.ref p) (upd H2 p (.dK (mergeK [] kvs)))) : tDisp trs σ H Q := h
theorem rd_pairsN {Q : List (V × V) → Hp → Prop} (h : Q [] H) : tPairs [] σ H Q := h
theorem rd_pairsC {tk tv : TE} {r : List (TE × TE)} {Q : List (V × V) → Hp → Prop} (h : tk σ H fun x H1 => tv σ H1 fun y H2 => tPairs r σ H2 fun ps H3 => Q ((x, y) :: ps) H3) : tPairs ((tk, tv) :: r) σ H Q := h
theorem rd_augSk {to ti te : TE} {tget : V → V → Hp → VK → Prop} {tip : TIp} {tset : TSet} (h : to σ H fun o H1 => ti σ H1 fun i H2 => tget o i H2 fun x H3 => te σ H3 fun y H4 => tip x y H4 fun z H5 => tset o i z H5 fun H6 => nx σ H6) : tAugS to ti te tget tip tset ⟨nx, rt, bk, ct⟩ σ H := h
theorem rd_par3 {i j l : Nat} (h : ta σ H fun vs H1 => ∃ v w u, vs = [v, w, u] ∧ nx (((σ.set i (some v)).set j (some w)).set l (some u)) H1) : tPar3 i j l ta ⟨nx, rt, bk, ct⟩ σ H := h
end
section
variable {K : PySem.W.Frag} {CT CP CC : Addr} {H H' : Hp} {a c d x : Addr} {ss : List Stp} {qs : List Nat} {dx : Addr} {fs : List (Str × V)} {av : Addr → Prop}
theorem TX.butI (h : TX K CT CP H a ss) (e : But c H H') (hc : H c = some (.ins CC dx fs)) (n1 : CT ≠ CC) (n2 : CP ≠ CC) : TX K CT CP H' a ss := by
  obtain ⟨t, T, q⟩ := h
  have ne : ∀ {b o}, (∀ D fs, o ≠ HO.ins CC D fs) → H b = some o → H' b = some o := fun {b o} ho hb => e b o (fun z => by subst z; rw [hc] at hb; cases hb; exact ho _ _ rfl) hb
  have f := free1_ins hc
  exact ⟨t, ⟨ne (fun D fs z => n1 (by cases z; rfl)) T.ins, e.tup f T.made, e.steps f T.stp, ne (fun D fs z => by cases z) T.pls, PartsAt.but e (fun dx fs z => n2 (by rw [hc] at z; cases z; rfl)) T.prt, T.ok, T.few⟩, q⟩
theorem natV_rep (k m : Nat) : (List.replicate k [V.int (m : Nat)]).flatten = natV (List.replicate k m) := by
  unfold natV
  rw [List.map_replicate]
  induction k with
  | zero => rfl
  | succ k ih => rw [List.replicate_succ, List.flatten_cons, ih, List.replicate_succ]; rfl
/-- a new counter of the text at a -/
theorem ct_new {H0 : Hp} {l : Addr} (hx : H c = some (.ins CC dx [])) (T : TX K CT CP H a ss) (n1 : CT ≠ CC) (n2 : CP ≠ CC) (e : But c H H0) (h0 : H0 c = some (.ins CC dx (counterF a d))) (hd : H0 d = some (.dK [((Sum.inl 0 : Key), V.ref l)])) (hl : H0 l = some (.lst (natV (cnt ss 0)))) (hv : ¬ av l) :
    CtAt K CT CP CC H0 c a d ss [] av :=
  ⟨⟨dx, h0⟩, T.butI e hx n1 n2, ⟨_, hd, by simp, ⟨_, rfl⟩, fun kv hkv => by
    cases List.mem_singleton.mp hkv
    exact ⟨0, l, rfl, Reach.mem (n := 0) ⟨0, List.mem_append_left _ List.mem_cons_self, 0, by omega, rfl⟩, hl, hv⟩⟩, by simp⟩
theorem mem_putK {kvs : List (Key × V)} {k : Key} {v : V} {kv : Key × V} (h : kv ∈ putK kvs k v) : kv ∈ kvs ∨ kv = (k, v) := by
  unfold putK at h
  split at h
  · obtain ⟨q, hq, rfl⟩ := List.mem_map.mp h
    split
    · rename_i e
      exact .inr (by rw [e])
    · exact .inl hq
  · rcases List.mem_append.mp h with h | h
    · exact .inl h
    · exact .inr (List.mem_singleton.mp h)
theorem nd_putK2 {kvs : List (Key × V)} {k : Key} (v : V) (hn : (kvs.map (·.1)).Nodup) : ((putK kvs k v).map (·.1)).Nodup := by
  cases e : valV kvs k with
  | none => exact nd_putK v hn e
  | some u =>
    unfold putK
    rw [if_pos (by rw [valV_any, e]; rfl), List.map_map]
    have : ((·.1) ∘ fun kv : Key × V => if kv.1 = k then (kv.1, v) else kv) = (·.1) := by
      funext kv
      simp only [Function.comp]
      split <;> rfl
    rw [this]
    exact hn
theorem CtAt.put2 {kvs : List (Key × V)} {x : Nat} {l : Addr} (h : CtAt K CT CP CC H c a d ss qs av) (hd : H d = some (.dK kvs)) (hx : x ∈ reachL ss qs) (hl : H l = some (.lst (natV (cnt ss x)))) (hv : ¬ av l) :
    CtAt K CT CP CC (upd H d (.dK (putK kvs (Sum.inl (x : Int)) (.ref l)))) c a d ss qs av := by
  have B : But d H (upd H d (.dK (putK kvs (Sum.inl (x : Int)) (.ref l)))) := But.at But.refl
  obtain ⟨⟨dx, h1⟩, h2, ⟨kvs', k1, k2, ⟨v, k3⟩, k4⟩, h4⟩ := h
  rw [hd] at k1; cases k1
  refine ⟨⟨dx, B _ _ (fun z => by subst z; rw [hd] at h1; cases h1) h1⟩, h2.but B hd, ⟨_, upd_same, nd_putK2 _ k2, ?_, fun kv hkv => ?_⟩, h4⟩
  · rw [valV_put]
    split
    · exact ⟨_, rfl⟩
    · exact ⟨v, k3⟩
  · rcases mem_putK hkv with hkv | rfl
    · obtain ⟨x', l', e1, e2, e3⟩ := k4 kv hkv
      exact ⟨x', l', e1, e2, but_lst B hd e3.1, e3.2⟩
    · exact ⟨x, l, rfl, hx, but_lst B hd hl, hv⟩
theorem but_any {kvs : List (Key × V)} {b : Addr} {o : HO} (e : But d H H') (hd : H d = some (.dK kvs)) (h : H b = some o) (no : ∀ k, o ≠ .dK k) : H' b = some o := e _ _ (fun z => by subst z; rw [hd] at h; cases h; exact no _ rfl) h
/-- any part's start -/
theorem PartAt.start {v : V} {n y : Nat} {s : Stp} (h : PartAt CP H v n y s) : ∃ p dx len ty f l, v = .ref p ∧ H p = some (.ins CP dx (partF n len ty f l)) := by
  cases s with
  | wr w => obtain ⟨p, dx, e, q⟩ := h; exact ⟨p, dx, _, _, _, _, e, q⟩
  | pa f l t => obtain ⟨p, dx, e, q⟩ := h; exact ⟨p, dx, _, _, _, _, e, q⟩
def cntW (ss : List Stp) (a y i : Nat) : List Nat := (List.range (tyL ss).length).map fun k => cn ss a k + if y ≤ k ∧ k < y + i then 1 else 0
theorem cntW_zero (ss : List Stp) (a y : Nat) : cntW ss a y 0 = cnt ss a := by
  unfold cntW cnt
  apply List.map_congr_left
  intro k _
  rw [if_neg (by omega)]; rfl
theorem cntW_get {ss : List Stp} {a y i : Nat} (h : y + i < (tyL ss).length) : (natV (cntW ss a y i))[y + i]? = some (.int (cn ss a (y + i) : Nat)) := by
  unfold natV cntW
  rw [List.getElem?_map, List.getElem?_map, List.getElem?_range h]
  simp only [Option.map_some]
  rw [if_neg (by omega), Nat.add_zero]
theorem cntW_set {ss : List Stp} {a y i : Nat} : (natV (cntW ss a y i)).set (y + i) (.int ((cn ss a (y + i) : Nat) + 1)) = natV (cntW ss a y (i + 1)) := by
  apply List.ext_getElem
  · simp [natV, cntW]
  · intro k h1 h2
    rw [List.getElem_set]
    simp only [natV, cntW, List.getElem_map, List.getElem_range]
    by_cases e : y + i = k
    · rw [if_pos e, if_pos (by omega), ← e]; rfl
    · rw [if_neg e]
      congr 2
      by_cases h : y ≤ k ∧ k < y + i
      · rw [if_pos h, if_pos (by omega)]
      · rw [if_neg h, if_neg (by omega)]
theorem cntW_end {ss : List Stp} {j x : Nat} {w : Str} (ok : okFrom 0 ss) (h : ss[j]? = some (.wr w)) (h1 : sz (ss.take j) ≤ x) (h2 : x ≤ sz (ss.take (j + 1))) : cntW ss (sz (ss.take j)) (tyL (ss.take j)).length (x - sz (ss.take j)) = cnt ss x := by
  unfold cntW cnt
  apply List.map_congr_left
  intro k _
  exact (cn_wr ok h h1 h2 k).symm
theorem cnt_nat {ss : List Stp} {x k : Nat} (h : k < (tyL ss).length) : (cnt ss x)[k]?.getD 0 = cn ss x k := by rw [cnt_get h]; rfl
theorem natV_snoc (L : List Nat) (m : Nat) : natV (L ++ [m]) = natV L ++ [V.int (m : Nat)] := by unfold natV; rw [List.map_append]; rfl
theorem natV_get {L : List Nat} {i : Nat} (h : i < L.length) : ((natV L)[i]?).getD .non = .int (L[i]?.getD 0 : Nat) := by
  unfold natV; rw [List.getElem?_map, List.getElem?_eq_getElem h]; rfl
theorem wmul {i j : Int} (h1 : i.natAbs ≤ 1000000000000000000) (h2 : j.natAbs ≤ 1000000000000000000) : CMulW i j := wide_mul (a := 60) (b := 60) (by omega) (by omega) (by decide) (by decide) (by decide)
theorem ixN_natx {n j : Nat} (hj : j < n) : ixN n (j : Int) = some j := by
  unfold ixN
  rw [if_pos (by omega), if_pos (by omega)]
  simp
theorem pairy_enumN {l : Addr} {L : List Nat} (h : H l = some (.lst (natV L))) : Pairy (Ite K l) L.length (fun i => [.int (i : Nat), .int (L[i]?.getD 0 : Nat)]) H := by
  have P := pairy_enum (K := K) (SqL.of h)
  rw [natV_len] at P
  exact ⟨P.stop, P.go, fun i H1 x H2 s hi y => by
    obtain ⟨T, a, b, c⟩ := P.yld i H1 x H2 s hi y
    rw [natV_get hi] at b
    exact ⟨T, a, b, c⟩⟩
theorem pairy_zipN {l m : Addr} {L M : List Nat} (h : H l = some (.lst (natV L))) (g : H m = some (.lst (natV M))) : Pairy (Itz K l m) (min L.length M.length) (fun i => [.int (L[i]?.getD 0 : Nat), .int (M[i]?.getD 0 : Nat)]) H := by
  have P := pairy_zip (K := K) (SqL.of h) (SqL.of g)
  rw [natV_len, natV_len] at P
  exact ⟨P.stop, P.go, fun i H1 x H2 s hi y => by
    obtain ⟨T, a, b, c⟩ := P.yld i H1 x H2 s hi y
    rw [natV_get (by omega), natV_get (by omega)] at b
    exact ⟨T, a, b, c⟩⟩
theorem but_some {kvs : List (Key × V)} {b : Addr} (e : But d H H') (hd : H' d = some (.dK kvs)) (h : H b ≠ none) : H' b ≠ none := by
  by_cases z : b = d
  · subst z; rw [hd]; exact fun q => by cases q
  · cases hb : H b with
    | none => exact absurd hb h
    | some o => rw [e _ _ z hb]; exact fun q => by cases q
theorem same_some {b : Addr} (e : Same H H') (h : H b ≠ none) : H' b ≠ none := by
  cases hb : H b with
  | none => exact absurd hb h
  | some o => rw [e _ _ hb]; exact fun q => by cases q
theorem none_back {b : Addr} (e : Same H H') (h : H' b = none) : H b = none := by
  cases hb : H b with
  | none => rfl
  | some o => rw [e _ _ hb] at h; cases h
theorem none_but {kvs : List (Key × V)} {b : Addr} (e : But d H H') (hd : H' d = some (.dK kvs)) (h : H' b = none) : H b = none := by
  cases hb : H b with
  | none => rfl
  | some o => exact absurd h (but_some e hd (by rw [hb]; exact fun q => by cases q))
theorem CtAt.dk {qs : List Nat} (h : CtAt K CT CP CC H c a d ss qs av) : ∃ kvs, H d = some (.dK kvs) := let ⟨kvs, e, _⟩ := h.kn.ex; ⟨kvs, e⟩
/-- counters where all but the dict stands as it stood, and what is remembered avoids av -/
theorem CtAt.re {qs qs' : List Nat} {av' : Addr → Prop} (h : CtAt K CT CP CC H c a d ss qs av) (e : But d H H') (k : Known H' d ss qs' av') (hq : qs'.length ≤ 10000) : CtAt K CT CP CC H' c a d ss qs' av' := by
  obtain ⟨kvs, hd⟩ := h.dk
  obtain ⟨dx, hc⟩ := h.ins
  exact ⟨⟨dx, but_any e hd hc (fun k z => by cases z)⟩, h.tx.but e hd, k, hq⟩
/-- what is remembered does not stand at D -/
theorem Known.upd {qs : List Nat} {D : Addr} {o : HO} (k : Known H d ss qs av) (hD : av D) (hd : D ≠ d) : Known (upd H D o) d ss qs av := by
  obtain ⟨kvs, k1, k2, k3, k4⟩ := k
  refine ⟨kvs, by rw [upd_ne (Ne.symm hd)]; exact k1, k2, k3, fun kv hkv => ?_⟩
  obtain ⟨x, l, e1, e2, e3, e4⟩ := k4 kv hkv
  exact ⟨x, l, e1, e2, by rw [upd_ne (fun z => e4 (by rw [z]; exact hD))]; exact e3, e4⟩
theorem Known.less {qs : List Nat} {av' : Addr → Prop} (k : Known H d ss qs av) (h : ∀ b, av' b → av b) : Known H d ss qs av' := by
  obtain ⟨kvs, k1, k2, k3, k4⟩ := k
  exact ⟨kvs, k1, k2, k3, fun kv hkv => let ⟨x, l, e1, e2, e3, e4⟩ := k4 kv hkv; ⟨x, l, e1, e2, e3, fun z => e4 (h l z)⟩⟩
/-- a new address is avoided -/
theorem Known.fresh {qs : List Nat} {D : Addr} (k : Known H d ss qs av) (hD : H D = none) : Known H d ss qs (fun b => b = D ∨ av b) := by
  obtain ⟨kvs, k1, k2, k3, k4⟩ := k
  refine ⟨kvs, k1, k2, k3, fun kv hkv => ?_⟩
  obtain ⟨x, l, e1, e2, e3, e4⟩ := k4 kv hkv
  exact ⟨x, l, e1, e2, e3, fun z => z.elim (fun z => by subst z; rw [hD] at e3; cases e3) e4⟩
end
end L2.Px
set_option Elab.async false
set_option linter.all false
set_option maxRecDepth 100000
set_option maxHeartbeats 1000000
namespace L2.Px
open PySem PySem.Spec PyProof.Rows StX TL
/-- how often one of the keys stands ahead of p -/
def tot (ss : List Stp) (keys : List Nat) (p : Nat) : Nat := (keys.map (cn ss p)).sum
theorem tot_mono (ss : List Stp) (keys : List Nat) {a b : Nat} (h : a ≤ b) : tot ss keys a ≤ tot ss keys b := by
  unfold tot
  induction keys with
  | nil => simp
  | cons k r ih => simp only [List.map_cons, List.sum_cons]; have := cn_mono ss k h; omega
/-- p is the place at which one of the keys stands for the time n -/
def IsNth (ss : List Stp) (keys : List Nat) (n p : Nat) : Prop := p < sz ss ∧ tot ss keys p ≤ n ∧ n < tot ss keys (p + 1)
section
variable {K : PySem.W.Frag} {CT CP CC : Addr} {H H' H1 : Hp} {Q : VK} {E : XK} {c a d l D : Addr} {ss : List Stp} {qs : List Nat} {av : Addr → Prop} {L : List Nat} {o : HO}
theorem natV_ints (L : List Nat) : natV L = (L.map fun m => ((m : Nat) : Int)).map V.int := by unfold natV; rw [List.map_map]; rfl
theorem but_put (e : But d H1 H) (hD : H1 D = none) : But d H1 (upd H D o) := fun b u hb h => by rw [upd_ne (ne_of_none h hD)]; exact e b u hb h
/-- throughout a comprehension that asks the counter -/
def Asks (H1 : Hp) (d D : Addr) (ss : List Stp) (qs : List Nat) (av : Addr → Prop) (H : Hp) : Prop := But d H1 H ∧ Known H d ss qs (fun b => b = D ∨ av b)
theorem Asks.start (ct : CtAt K CT CP CC H1 c a d ss qs av) (hD : H1 D = none) : Asks H1 d D ss qs av (upd H1 D (.lst [])) := by
  obtain ⟨kvs, hd⟩ := ct.dk
  have nd : D ≠ d := fun z => by subst z; rw [hd] at hD; cases hD
  exact ⟨But.new But.refl hD, (ct.kn.fresh hD).upd (.inl rfl) nd⟩
theorem Asks.put (ct : CtAt K CT CP CC H1 c a d ss qs av) (hD : H1 D = none) (h : Asks H1 d D ss qs av H) : Asks H1 d D ss qs av (upd H D o) := by
  obtain ⟨kvs, hd⟩ := ct.dk
  have nd : D ≠ d := fun z => by subst z; rw [hd] at hD; cases hD
  exact ⟨but_put h.1 hD, h.2.upd (.inl rfl) nd⟩
theorem Asks.ct (ct : CtAt K CT CP CC H1 c a d ss qs av) (h : Asks H1 d D ss qs av H) : CtAt K CT CP CC H c a d ss qs (fun b => b = D ∨ av b) := ct.re h.1 h.2 ct.few
variable (K CT CP CC)
/-- first .. last, both included; empty: last = first - 1 -/
def sp_check_range : Sp := fun vs H Q _ => ∃ a ss, ∃ f e : Nat, vs = [.ref a, .int f, .int ((e : Int) - 1)] ∧ TX K CT CP H a ss ∧ f ≤ e ∧ e ≤ sz ss ∧ Q .non H
def sp_key_counts : Sp := fun vs H Q _ => ∃ a ss, ∃ f e : Nat, vs = [.ref a, .int f, .int ((e : Int) - 1)] ∧ TX K CT CP H a ss ∧ f ≤ e ∧ e ≤ sz ss ∧ ∀ H' l, Same H H' → H' l = some (.lst (natV ((List.range (tyL ss).length).map fun k => cn ss e k - cn ss f k))) → Q (.ref l) H'
end
end L2.Px
set_option Elab.async false
set_option linter.all false
set_option maxRecDepth 100000
set_option maxHeartbeats 1000000
namespace L2.Px
open PySem PySem.Spec PyProof.Rows StX TL
section
variable {K : PySem.W.Frag} {CT CP CC : Addr} {H H' H1 : Hp} {Q : VK} {E : XK} {c a d l D : Addr} {ss : List Stp} {qs : List Nat} {av : Addr → Prop} {i lo hi : Int}
theorem rd_isIntT (h : lo ≤ i ∧ i ≤ hi) (q : Q (.bl true) H) : sp_is_integer [.int i, .int lo, .int hi] H Q E := ⟨_, _, _, rfl, trivial, by rw [show isInt lo hi (.int i) = true from decide_eq_true h]; exact q⟩
theorem rd_mkCounter (h : TX K CT CP H a ss) (q : ∀ c d H', Same H H' → CtAt K CT CP CC H' c a d ss [] (fun b => H b ≠ none) → H d = none → Q (.ref c) H') : rMk CC (sp_Counter_init K CT CP CC) E [.ref a] H Q := by
  intro x dx nx nd ne
  have S1 : Same H (upd (upd H dx (.own x)) x (.ins CC dx [])) := Same.mut (Same.mut (Same.refl _) nd) nx
  refine ⟨x, dx, a, ss, rfl, upd_same, h.kp (Kp.same S1), fun H' d B ct hd => ⟨rfl, q x d H' (fun b o e => B _ _ (ne_of_none e nx) (S1 _ _ e)) ?_ ?_⟩⟩
  · exact ⟨ct.ins, ct.tx, ct.kn.less fun b hb => same_some S1 hb, ct.few⟩
  · cases e : H d with
    | none => rfl
    | some o => rw [S1 _ _ e] at hd; cases hd
theorem rd_mCheckKey {k : Nat} (h : TX K CT CP H a ss) (hk : k < (tyL ss).length) (q : Q .non H) : sp_Text_check_key K CT CP [.ref a, .int (k : Nat)] H Q E := by
  obtain ⟨t, T, rfl⟩ := h
  exact ⟨a, t, _, rfl, T, trivial, decide_eq_true (by omega), q⟩
theorem CtAt.insM {m : Str} (h : CtAt K CT CP CC H c a d ss qs av) (hm : m ≠ "known" ∧ m ≠ "text" := by decide +kernel) : InsM H c CC m := let ⟨dx, e⟩ := h.ins; ⟨dx, _, e, counterF_no hm⟩
/-- before of the 30 parts: a new question -/
theorem rd_before {x : Nat} (ct : CtAt K CT CP CC H c a d ss qs av) (hav : ∀ b, av b → H b ≠ none) (hx : x ≤ sz ss) (hq : qs.length < 10000)
    (q : ∀ H' l, But d H H' → CtAt K CT CP CC H' c a d ss (x :: qs) av → H' l = some (.lst (natV (cnt ss x))) → Q (.ref l) H') : sp_Counter_before K CT CP CC 30 [.ref c, .int (x : Nat)] H Q E :=
  ⟨c, a, d, ss, x :: qs, av, x, rfl, ct.query hq, hav, by rw [List.take_of_length_le ct.tx.few]; exact hx, by decide, reach_q (by decide), q⟩
theorem same_but (e : But d H1 H') (S : Same H H1) (hd : H d = none) : Same H H' := fun b o h => e b o (ne_of_none h hd) (S b o h)
theorem kc_eq (ss : List Stp) (f e : Nat) (h : f ≤ e) (k : Nat) : ((cn ss e k : Nat) : Int) - (cn ss f k : Nat) = ((cn ss e k - cn ss f k : Nat) : Int) := by
  have := cn_mono ss k h
  omega
def kcs (ss : List Stp) (f e : Nat) : List Nat := (List.range (tyL ss).length).map fun k => cn ss e k - cn ss f k
theorem kcs_len (ss : List Stp) (f e : Nat) : (kcs ss f e).length = (tyL ss).length := by simp [kcs]
theorem rd_checkRange {i j : Int} (h : TX K CT CP H a ss) (h1 : 0 ≤ i) (h2 : i ≤ j + 1) (h3 : j + 1 ≤ sz ss) (q : Q .non H) : sp_check_range K CT CP [.ref a, .int i, .int j] H Q E :=
  ⟨a, ss, i.toNat, (j + 1).toNat, by rw [Int.toNat_of_nonneg h1, Int.toNat_of_nonneg (by omega), Int.add_sub_cancel], h, by omega, by omega, q⟩
theorem rd_keyCounts {i j : Int} (h : TX K CT CP H a ss) (h1 : 0 ≤ i) (h2 : i ≤ j + 1) (h3 : j + 1 ≤ sz ss) (q : ∀ l H', Same H H' → H' l = some (.lst (natV (kcs ss i.toNat (j + 1).toNat))) → Q (.ref l) H') : sp_key_counts K CT CP [.ref a, .int i, .int j] H Q E :=
  ⟨a, ss, i.toNat, (j + 1).toNat, by rw [Int.toNat_of_nonneg h1, Int.toNat_of_nonneg (by omega), Int.add_sub_cancel], h, by omega, by omega, fun H' l S e => q l H' S e⟩
theorem rd_insCt {m : Str} {A : Prop} (h : CtAt K CT CP CC H c a d ss qs av) (hm : m ≠ "known" ∧ m ≠ "text") (q : A) : InsM H c CC m ∧ A := ⟨h.insM hm, q⟩
variable (K CT CP)
end
end L2.Px
set_option Elab.async false
set_option linter.all false
set_option maxRecDepth 100000
set_option maxHeartbeats 1000000
namespace PySem
open Sem (wp)
section
variable {M : Model} {A : Around} {R : GenEnd} {Y : Protocol} {n : Nat} {s₀ : Shared} {c : Code} {fs : List Frame} {s : Shared} {env : Env}
  {K : Flow → Sem Fin} {H : Value → Sem Fin} {gd : Bool → Bool} {lv : List Value → List Value}
theorem px_seg_For {tg iter : Expr} {body : List Stmt} {pos : Pos} (hs : ∀ x, foldedSetIterable iter env x = pure x)
    (h : wpAny M (A.over c fs) (eval iter env) (fun x s1 => wpAny M (A.over c fs) (pyIter x) (fun it s2 => ∀ p, Seg M A R Y n s₀ (.forLoop tg it body [] env) (M.den (.forLoop tg it body [] env))
      (.ret (fun r => ((match r with | .ok f => (.pure f : Sem Flow) | .error e => .raise e).onRaise fun (x : Value) => do
        if (← field x 1) == Value.none then unsupported "frame.own-activation:exception-without-traceback"
        setFlight x env.frame).wrap K H gd lv) none (gd false) (lv []) c p [] :: fs) s2)
      (fun x s' => Seg M A R Y n s₀ c (H x) fs s') s1) (fun x s' => Seg M A R Y n s₀ c (H x) fs s') s) :
    Seg M A R Y n s₀ c ((exec (.For tg iter body [] pos) env).wrap K H gd lv) fs s := by
  rw [exec_For]
  show Seg M A R Y n s₀ c (.at pos fun _ => (eval iter env >>= fun a => foldedSetIterable iter env a >>= fun x => standAt iter.pos >>= fun _ => holding [x] (pyIter x) >>= fun it => runOwn (.forLoop tg it body [] env) env).wrap K H gd lv) fs s
  refine seg_at ?_
  rw [Sem.bind_eq_wrap', Sem.wrap_wrap]
  refine seg_wrap (wpAny_mono h (fun x s1 h1 => ?_) fun _ _ e => e)
  rw [hs x]
  show Seg M A R Y n s₀ c (.at iter.pos fun _ => (holding [x] (pyIter x) >>= fun it => runOwn (.forLoop tg it body [] env) env).wrap K H gd lv) fs s1
  refine seg_at ?_
  rw [Sem.bind_eq_wrap', Sem.wrap_wrap]
  refine seg_wrap (wpAny_holding (wpAny_mono h1 (fun it s2 h2 => ?_) fun _ _ e => e))
  exact seg_call h2
end
section
variable {prog : Program} {w : World} {A : Around} {R : GenEnd} {Y : Protocol} {n : Nat} {s₀ : Shared} {fs : List Frame} {s : Shared} {env : Env}
/-- what a raise in a loop's turn does -/
def pxE (env : Env) (e : Value) : Sem Fin := (do noteFrame e env; theTreesLotGoes e : Sem Unit).wrap (fun _ => .raise e) .raise id id
theorem px_seg_forLoop {tg : Expr} {it : Value} {body : List Stmt}
    (h : wpAny (model prog w) (A.over (.forLoop tg it body [] env) fs) (pyNext it) (fun r s1 => match r with
      | none => Seg (model prog w) A R Y n s₀ (.forLoop tg it body [] env) (.pure (.again (.block [] env))) fs s1
      | some v => wpAny (model prog w) (A.over (.forLoop tg it body [] env) fs) (letOwnedTupleGo tg it v) (fun _ s2 => wpAny (model prog w) (A.over (.forLoop tg it body [] env) fs) (assign tg env v) (fun _ s3 =>
          Seg (model prog w) A R Y n s₀ (.forLoop tg it body [] env) ((execs body env).wrap (fun f => match f with
            | .next | .cont => .pure (.again (.forLoop tg it body [] env))
            | .brk => .pure (.done .next)
            | .ret v => .pure (.done (.ret v))) (pxE env) id id) fs s3)
          (fun x s' => Seg (model prog w) A R Y n s₀ (.forLoop tg it body [] env) (pxE env x) fs s') s2)
          (fun x s' => Seg (model prog w) A R Y n s₀ (.forLoop tg it body [] env) (pxE env x) fs s') s1)
      (fun x s' => Seg (model prog w) A R Y n s₀ (.forLoop tg it body [] env) (pxE env x) fs s') s) :
    Seg (model prog w) A R Y n s₀ (.forLoop tg it body [] env) ((model prog w).den (.forLoop tg it body [] env)) fs s := by
  have hE : ∀ (x : Value) (s' : Shared), Seg (model prog w) A R Y n s₀ (.forLoop tg it body [] env) (pxE env x) fs s' → Seg (model prog w) A R Y n s₀ (.forLoop tg it body [] env) ((do noteFrame x env; theTreesLotGoes x : Sem Unit).bind fun _ => .raise x) fs s' := fun x s' q => by
    rw [Sem.bind_eq_wrap]; exact q
  show Seg _ A R Y n s₀ _ ((forTurn tg it body [] env).onRaise (fun x => do noteFrame x env; theTreesLotGoes x)) fs s
  unfold forTurn
  rw [Sem.onRaise_eq_wrap]
  refine seg_at ?_
  show Seg _ A R Y n s₀ _ (((pyNext it).onRaise (fun _ => standAt { tg.pos with line := 0 }) >>= _).wrap _ _ _ _) fs s
  rw [Sem.bind_eq_wrap', Sem.wrap_wrap]
  refine seg_wrap (wpAny_onRaise (wpAny_mono h (fun r s1 h1 => ?_) fun x s' e => wpAny_standAt (hE x s' e)))
  cases r with
  | none => exact h1
  | some v =>
    show Seg _ A R Y n s₀ _ ((letOwnedTupleGo tg it v >>= _).wrap _ _ _ _) fs s1
    rw [Sem.bind_eq_wrap', Sem.wrap_wrap]
    refine seg_wrap (wpAny_mono h1 (fun _ s2 h2 => ?_) fun x s' e => hE x s' e)
    show Seg _ A R Y n s₀ _ ((assign tg env v >>= _).wrap _ _ _ _) fs s2
    rw [Sem.bind_eq_wrap', Sem.wrap_wrap]
    refine seg_wrap (wpAny_mono h2 (fun _ s3 h3 => ?_) fun x s' e => hE x s' e)
    show Seg _ A R Y n s₀ _ ((execs body env >>= _).wrap _ _ _ _) fs s3
    rw [Sem.bind_eq_wrap', Sem.wrap_wrap]
    rw [Sem.wrap_congr (execs body env) _ _ (K' := fun f => match f with
            | .next | .cont => .pure (.again (.forLoop tg it body [] env))
            | .brk => .pure (.done .next)
            | .ret v => .pure (.done (.ret v))) (H' := pxE env) (fun f => by cases f <;> rfl) (fun e => by
              show ((do noteFrame e env; theTreesLotGoes e : Sem Unit).bind fun _ => .raise e) = pxE env e
              rw [Sem.bind_eq_wrap]; rfl)]
    exact h3
/-- the loop's end: the empty block -/
theorem px_seg_block {c : Code} (h : Seg (model prog w) A R Y n s₀ (.block [] env) (.pure (.done .next)) fs s) : Seg (model prog w) A R Y n s₀ c (.pure (.again (.block [] env))) fs s := by
  refine seg_again rfl ?_
  exact h
end
end PySem
namespace L2.Px
open PySem PySem.Spec PyProof.Rows StX TL
section
variable {X : Cx}
def tGFor (wi : TI) (g : TG) (tb : TGn) : TGn := fun D ys σ H => wi σ H fun J H1 => ∃ W : Nat → Nat → List V → St → Hp → Prop, (∃ m, W 0 m ys σ H1) ∧ ∀ i m ys σ H, W i m ys σ H →
  (J.stop i H ∧ D.nx ys σ H) ∨ (J.go i H ∧ ∃ N : List V → St → Hp → Prop, (∀ ys' σ' H', N ys' σ' H' → ∃ m', m' < m ∧ W (i + 1) m' ys' σ' H') ∧ ∀ x H', J.yld i H x H' → g x σ H' fun σ2 H2 => tb { D with nx := N, ct := N, bk := D.nx } ys σ2 H2)
theorem gs_for {tg iter : Expr} {body : List Stmt} {pos : Pos} {wi : TI} {g : TG} {tb : TGn} (hp : PassesOwn (model X.prog X.w) X.A X.env X.xe) (hc : X.calm = true) (hi : PI X tg iter wi) (hg : PG X tg g) (hb : GSs X body tb)
    (hs : ∀ x, foldedSetIterable iter X.env x = pure x := by intro _; rfl) : GS X (.For tg iter body [] pos) (tGFor wi g tb) := by
  refine ⟨fun A S ip R n ys s₀ c fs K J gd lv s σ H D g0 hn k hI ht => ?_⟩
  obtain ⟨acc, cc, r, I⟩ := hI
  refine px_seg_For hs ?_
  rw [g0.over]
  refine wpAny_mono (hi.run _ s σ H _ I ht) (fun v s1 h1 => wpAny_mono h1 (fun itv s2 h2 => ?_) fun x s' hx => k.exc n s₀ x s' hx) fun x s' hx => k.exc n s₀ x s' hx
  obtain ⟨it, fp, tn, Jt, H2, e, I2, T, st2, f2, W, ⟨m0, w0⟩, turn⟩ := h2
  subst e
  intro p
  have gl := fun (kk : Result → Sem PySem.Fin) => gc_loop (k := kk) (c' := .forLoop tg (.ref it) body [] X.env) (l := lv []) (kp := []) (p := p) g0 rfl rfl
  have hbS : ∀ b ∈ fp, b ≠ S := fun b hb z => (f2 b hb).2.2.2.2.2 (S, lstObj acc cc) (List.mem_append_right _ List.mem_cons_self) z.symm
  have stat : ∀ {H' : Hp} {acc' : Array Value} {c' : Nat}, (∀ b ∈ fp, H' b = none) → ∀ b ∈ fp, FpOk X ((S, lstObj acc' c') :: ip) H' b := fun hn b hb => by
    obtain ⟨_, a1, a2, a3, a4, a5⟩ := f2 b hb
    refine ⟨hn b hb, a1, a2, a3, a4, fun q hq => ?_⟩
    rcases List.mem_append.mp hq with hq | hq
    · exact a5 q (List.mem_append_left _ hq)
    · rcases List.mem_cons.mp hq with e | hq
      · rw [e]; exact fun z => hbS b hb z.symm
      · exact a5 q (List.mem_append_right _ (List.mem_cons_of_mem _ hq))
  have ee : ∀ (n : Nat) (s₀ : Shared) (x : Value) (s' : Shared), X.xe x s' → Seg (model X.prog X.w) A R (GY X S) n s₀ (.forLoop tg (.ref it) body [] X.env) (pxE X.env x)
      (.ret (fun r => ((match r with | .ok f => (.pure f : Sem Flow) | .error e => .raise e).onRaise (cameBack X.env)).wrap K J gd lv) none (gd false) (lv []) c p [] :: fs) s' := fun n s₀ x s' hx => by
    unfold pxE
    refine seg_wrap ?_
    rw [(gl _).over]
    refine wpAny_bind (wpAny_mono (hp x s' hx) (fun _ s'' hcb => wpAny_theTreesLotGoes ?_) fun y s'' hcb => ?_)
    · exact seg_leaf (.error x) (seg_cameBack g0 k hcb)
    · exact seg_leaf (.error y) (seg_cameBack g0 k hcb)
  have loop : ∀ (m i n : Nat) (ys : List V) (s₀ s : Shared) (σ : St) (H : Hp), n + ys.length = sizeLine → W i m ys σ H → GI X S ip ys σ H s → tn i s.heap → (∀ b ∈ fp, H b = none) →
      Seg (model X.prog X.w) A R (GY X S) n s₀ (.forLoop tg (.ref it) body [] X.env) ((model X.prog X.w).den (.forLoop tg (.ref it) body [] X.env))
        (.ret (fun r => ((match r with | .ok f => (.pure f : Sem Flow) | .error e => .raise e).onRaise (cameBack X.env)).wrap K J gd lv) none (gd false) (lv []) c p [] :: fs) s := by
    intro m
    induction m using Nat.strongRecOn with
    | ind m ih =>
      intro i n ys s₀ s σ H hn w hI st fr
      refine px_seg_forLoop ?_
      rw [(gl _).over]
      obtain ⟨acc, cc, r, I⟩ := hI
      rcases turn i m ys σ H w with ⟨stop, qn⟩ | ⟨go, N, hN, step⟩
      · refine wpAny_mono (T.done X rfl rfl rfl hc i _ s σ H X.xe I (stat fr) st stop) (fun r' s4 h4 => ?_) fun x s' hx => ee n s₀ x s' hx
        obtain ⟨hr, I4⟩ := h4
        subst hr
        exact px_seg_block (seg_leaf (.ok .next) (k.ok n ys s₀ s4 .next hn ⟨σ, H, ⟨acc, cc, r, I4⟩, qn⟩))
      · refine wpAny_mono (T.item X rfl rfl rfl hc i _ s σ H X.xe I (stat fr) st go) (fun r' s4 h4 => ?_) fun x s' hx => ee n s₀ x s' hx
        obtain ⟨u, hr, h4⟩ := h4
        subst hr
        refine wpAny_mono h4 (fun _ s5 h5 => ?_) fun x s' hx => ee n s₀ x s' hx
        obtain ⟨x, H5, I5, r5, y5, st5, fr5⟩ := h5
        have I5' := I5.pinned (stat fr5) (T.obj _ _ st5)
        refine wpAny_mono (hg.run _ s5 σ H5 x u _ I5' r5 (step x H5 y5)) (fun _ s6 h6 => ?_) fun x s' hx => ee n s₀ x s' hx
        obtain ⟨σ6, H6, I6, q6⟩ := h6
        have gl' : GC X S (ip ++ pinsAt fp s5.heap) A (.forLoop tg (.ref it) body [] X.env) (.ret (fun r => ((match r with | .ok f => (.pure f : Sem Flow) | .error e => .raise e).onRaise (cameBack X.env)).wrap K J gd lv) none (gd false) (lv []) c p [] :: fs) id :=
          ⟨(gl (fun r => ((match r with | .ok f => (.pure f : Sem Flow) | .error e => .raise e).onRaise (cameBack X.env)).wrap K J gd lv)).pn, fun q hq => by
            rcases List.mem_append.mp hq with hq | hq
            · exact g0.ip q hq
            · exact hbS q.1 (of_pinsAt hq).1, g0.apart, (gl _).over, (gl _).split, (gl _).guard, rfl⟩
        refine hb.run A S (ip ++ pinsAt fp s5.heap) R n ys s₀ _ _ _ _ id id s6 σ6 H6 { D with nx := N, ct := N, bk := D.nx } gl' hn ⟨fun n' ys' s₀' s7 f hn' hs7 => ?_, fun n' s₀' x s7 hx => ee n' s₀' x s7 hx⟩ ⟨acc, cc, r, I6⟩ q6
        have again : ∀ {σ7 : St} {H7 : Hp}, GI X S (ip ++ pinsAt fp s5.heap) ys' σ7 H7 s7 → N ys' σ7 H7 → Seg (model X.prog X.w) A R (GY X S) n' s₀' (.forLoop tg (.ref it) body [] X.env) (.pure (.again (.forLoop tg (.ref it) body [] X.env)))
            (.ret (fun r => ((match r with | .ok f => (.pure f : Sem Flow) | .error e => .raise e).onRaise (cameBack X.env)).wrap K J gd lv) none (gd false) (lv []) c p [] :: fs) s7 := fun {σ7 H7} hI7 n7 => by
          obtain ⟨m', hm, w7⟩ := hN ys' σ7 H7 n7
          obtain ⟨acc7, cc7, r7, I7⟩ := hI7
          have I7' : Inv X (((S, lstObj acc7 cc7) :: ip) ++ pinsAt fp s5.heap) σ7 H7 s7 := I7
          refine seg_again rfl (ih m' hm (i + 1) n' ys' s₀' s7 σ7 H7 hn' w7 ⟨acc7, cc7, r7, I7'.unpinned⟩ (T.keep _ _ _ st5 fun b hb o e => (I7'.pin (b, o) (List.mem_append_right _ (List.mem_append_right _ (mem_pinsAt hb e)))).1) fun b hb => ?_)
          obtain ⟨o, e, d⟩ := T.obj _ _ st5 b hb
          exact (I7'.pin (b, o) (List.mem_append_right _ (List.mem_append_right _ (mem_pinsAt hb e)))).2.1
        cases f with
        | next => obtain ⟨σ7, H7, hI7, n7⟩ := hs7; exact again hI7 n7
        | cont => obtain ⟨σ7, H7, hI7, n7⟩ := hs7; exact again hI7 n7
        | brk =>
          obtain ⟨σ7, H7, ⟨acc7, cc7, r7, I7⟩, q7⟩ := hs7
          have I7' : Inv X (((S, lstObj acc7 cc7) :: ip) ++ pinsAt fp s5.heap) σ7 H7 s7 := I7
          exact seg_leaf (.ok .next) (k.ok n' ys' s₀' s7 .next hn' ⟨σ7, H7, ⟨acc7, cc7, r7, I7'.unpinned⟩, q7⟩)
        | ret v =>
          obtain ⟨x7, σ7, H7, ⟨acc7, cc7, r7, I7⟩, rv7, q7⟩ := hs7
          have I7' : Inv X (((S, lstObj acc7 cc7) :: ip) ++ pinsAt fp s5.heap) σ7 H7 s7 := I7
          exact seg_leaf (.ok (.ret v)) (k.ok n' ys' s₀' s7 (.ret v) hn' ⟨x7, σ7, H7, ⟨acc7, cc7, r7, I7'.unpinned⟩, rv7, q7⟩)
  exact loop m0 0 n ys s₀ s2 σ H2 hn w0 ⟨acc, cc, r, I2⟩ st2 fun b hb => (f2 b hb).1
end
end L2.Px
set_option Elab.async false
set_option linter.all false
set_option maxRecDepth 100000
set_option maxHeartbeats 1000000
namespace L2.Px
open PySem PySem.Spec PyProof.Rows StX TL
/-- the generator def named x keeps the promise sp -/
def GenOk (P : Program) (w : World) (K : PySem.W.Frag) (mg : Str → Option Value) (base : Heap) (k : Nat) (x : Str) (sp : SpG) : Prop :=
  ∃ f fd ps, GFn P w K mg base k f fd ps sp ∧ mg x = some (.ref f) ∧ PySem.W.keepIn K (.ref f) = true ∧ Binds K fd ps []
def NoX : XK := fun _ _ _ => False
section
variable {P : Program} {w : World} {K : PySem.W.Frag} {mg : Str → Option Value} {base : Heap} {k : Nat} {ps : List Str} {sp : SpG} {x : Str} {st : Stmt}
theorem DefG.gen {N : List Str} (D : DefG K mg x st ps) (S : GScope N ps (defScope st)) (len : ∀ vs H Q E, sp vs H Q E → vs.length = ps.length)
    (hbody : ∀ (f : Addr) (cdv : Value) (A : Around) (outer : List Env) (s : Shared) (H : Hp) (vs : List V) (Q : List V → Hp → Prop) (E : XK) (pn : List (Addr × Obj)), Room k (A.deeper (envOfC x (defScope st) s.heap.objs.size f cdv)) → sp vs H Q E →
      ∃ t, GSs (gcxOf P w K mg base N x (defScope st) f cdv A outer s H E pn) (defBody st) t ∧ t { nx := fun ys _ H' => Q ys H', rt := fun ys v H' => v = .non ∧ Q ys H' } [] (start N vs) H) : GenOk P w K mg base (k + 1) x sp := by
  obtain ⟨f, fd, F, a, b⟩ := D
  have kp := F.kp
  obtain ⟨oc, od, kV, doc, pm, an, cdv, ct, osl, rfl, lk, hcd⟩ := F.ex
  exact ⟨f, _, ps, gfn_of lk hcd S len fun A outer s H vs Q E pn hr h => hbody f cdv A outer s H vs Q E pn hr h, a, kp, b⟩
end
section
variable {D : GEnds} {ys : List V} {σ : St} {H : Hp} {t : TS} {a b : TGn} {wi : TI} {g : TG} {te : TE}
theorem rd_gthen (h : a { D with nx := fun ys' σ' H' => b D ys' σ' H' } ys σ H) : tGThen a b D ys σ H := h
theorem rd_gplain (h : t { nx := D.nx ys, rt := D.rt ys, bk := D.bk ys, ct := D.ct ys } σ H) : tPlain t D ys σ H := h
theorem rd_gstart {N : List Str} {vs : List V} {σ' : St} {t : TGn} (e : start N vs = σ') (h : t D ys σ' H) : t D ys (start N vs) H := by subst e; exact h
theorem rd_g0 (h : D.nx ys σ H) : tG0 D ys σ H := h
theorem rd_gyield (hz : ys.length < sizeLine) (h : te σ H fun x H1 => D.nx (ys ++ [x]) σ H1) : tGYield te D ys σ H := ⟨hz, h⟩
theorem rd_gfor (h : wi σ H fun J H1 => ∃ W : Nat → Nat → List V → St → Hp → Prop, (∃ m, W 0 m ys σ H1) ∧ ∀ i m ys σ H, W i m ys σ H →
  (J.stop i H ∧ D.nx ys σ H) ∨ (J.go i H ∧ ∃ N : List V → St → Hp → Prop, (∀ ys' σ' H', N ys' σ' H' → ∃ m', m' < m ∧ W (i + 1) m' ys' σ' H') ∧ ∀ x H', J.yld i H x H' → g x σ H' fun σ2 H2 => b { D with nx := N, ct := N, bk := D.nx } ys σ2 H2)) : tGFor wi g b D ys σ H := h
end
/-- the places of k from f on, at most 100 -/
structure IsPl (ss : List Stp) (k f : Nat) (L : List Nat) : Prop where
  le : L.length ≤ 100
  nth : ∀ j, j < L.length → IsNth ss [k] (cn ss f k + j) (L[j]?.getD 0)
  all : L.length = 100 ∨ cn ss (sz ss) k ≤ cn ss f k + L.length
theorem tot_one (ss : List Stp) (k p : Nat) : tot ss [k] p = cn ss p k := by simp [tot]
end L2.Px
set_option Elab.async false
set_option linter.all false
set_option maxRecDepth 100000
set_option maxHeartbeats 1000000
namespace L2.Px
open PySem PySem.Spec PyProof.Rows StX TL
end L2.Px
set_option Elab.async false
set_option linter.all false
set_option maxRecDepth 100000
set_option maxHeartbeats 1000000
namespace L2.Px
open PySem PySem.Spec PyProof.Rows StX TL
section
variable {wi : TI} {g : TG} {tt : TT} {tk tv : TE} {ws : List Nat} {σ : St} {H : Hp} {Q : VK}
def DcW (J : It) (g : TG) (tt : TT) (tk tv : TE) (vs : List Nat) (σ : St) (H1 : Hp) (D : Addr) (Qd : Hp → Prop) : Prop := ∃ W : Nat → Nat → Hp → Prop, (∃ m, W 0 m (upd H1 D (.dK []))) ∧ ∀ i m H, W i m H →
  (J.stop i H ∧ Qd H) ∨ (J.go i H ∧ ∃ Nx : Hp → Prop, (∀ H', Nx H' → ∃ m', m' < m ∧ W (i + 1) m' H') ∧ ∀ x H', J.yld i H x H' → g x (wipe σ vs) H' fun σ2 H2 => wipe σ2 vs = wipe σ vs ∧ tt σ2 H2 fun b H3 =>
    if b = true then tk σ2 H3 fun y H4 => tv σ2 H4 fun z H5 => ∃ kvs k, y = kV k ∧ H5 D = some (.dK kvs) ∧ kvs.length < sizeLine ∧ Nx (upd H5 D (.dK (putK kvs k z))) else Nx H3)
theorem rd_dc (h : wi σ H fun J H1 => ∀ D, H1 D = none → DcW J g tt tk tv ws σ H1 D fun H' => Q (.ref D) H') : tDc wi g tt tk tv ws σ H Q := h
theorem rd_dget2 {td ty tx : TE} (h : td σ H fun x H1 => ∃ a, x = .ref a ∧ IsD H1 a ∧ ty σ H1 fun y H2 => tx σ H2 fun z H3 => ∃ o, DGet H3 a y o ∧ Q (o.getD z) H3) : tDGet2 td ty tx σ H Q := h
end
end L2.Px
set_option Elab.async false
set_option linter.all false
set_option maxRecDepth 100000
set_option maxHeartbeats 1000000
namespace L2.Px
open PySem PySem.Spec PyProof.Rows StX TL
theorem rd_isLetter {c : Nat} {H : Hp} {Q : VK} {E : XK} (h : 97 ≤ c ∧ c ≤ 122) (q : Q (.bl true) H) : sp_is_letter [.str ⟨#[c]⟩] H Q E :=
  ⟨_, rfl, trivial, fun x e => by cases e; rw [sizeLine_eq]; exact (by decide : 1 ≤ 16777216), by rw [show isLet (.str ⟨#[c]⟩) = true from by simp [isLet, h.1, h.2]]; exact q⟩
end L2.Px
set_option Elab.async false
set_option linter.all false
set_option maxRecDepth 100000
set_option maxHeartbeats 1000000
namespace L2.Px
open PySem PySem.Spec PyProof.Rows StX TL
section
variable {K : PySem.W.Frag} {CT CP : Addr} {H : Hp} {Q : VK} {E : XK} {r : Addr} {i : Int}
theorem rd_p9 (q : Q (.int 1000000000) H) : rI CPow (fun i j => V.int (i ^ j.toNat)) (.int 10) (.int 9) H Q := rd_I ⟨by decide, by decide, by decide⟩ (by rw [show (10 : Int) ^ (9 : Int).toNat = 1000000000 from by decide +kernel]; exact q)
theorem okLs.join {a b : List Stp} (h : okLs a) (g : okLs b) : okLs (joinS a b) := fun c hc => by
  rw [tyL_join] at hc
  exact (List.mem_append.mp hc).elim (h c) (g c)
end
end L2.Px
set_option Elab.async false
set_option linter.all false
set_option maxRecDepth 100000
set_option maxHeartbeats 1000000
namespace L2.Px
open PySem PySem.Spec PyProof.Rows StX TL
theorem sum_map_add (L : List Nat) (f g : Nat → Nat) : (L.map fun k => f k + g k).sum = (L.map f).sum + (L.map g).sum := by
  induction L with
  | nil => rfl
  | cons x L ih => simp only [List.map_cons, List.sum_cons, ih]; omega
theorem kcs_zero (ss : List Stp) (p : Nat) : kcs ss 0 p = (List.range (tyL ss).length).map (cn ss p) := by
  unfold kcs
  refine List.map_congr_left fun k _ => by rw [cn_zero, Nat.sub_zero]
theorem nth_unique {ss : List Stp} {keys : List Nat} {n p q : Nat} (h : IsNth ss keys n p) (g : IsNth ss keys n q) : p = q := by
  rcases Nat.lt_trichotomy p q with z | z | z
  · have := tot_mono ss keys (show p + 1 ≤ q from z)
    have := h.2.2; have := g.2.1; omega
  · exact z
  · have := tot_mono ss keys (show q + 1 ≤ p from z)
    have := g.2.2; have := h.2.1; omega
theorem tot_ind (keys : List Nat) (k : Nat) : (keys.map fun j => if k = j then 1 else 0).sum = keys.count k := by
  induction keys with
  | nil => rfl
  | cons x r ih => rw [List.map_cons, List.sum_cons, ih, List.count_cons]; simp only [beq_iff_eq]; by_cases z : k = x <;> simp [z, eq_comm, Nat.add_comm]
theorem tot_succ {ss : List Stp} (ok : okFrom 0 ss) (keys : List Nat) {p : Nat} (h : p < sz ss) : tot ss keys (p + 1) = tot ss keys p + keys.count (kat ss p) := by
  unfold tot
  rw [← tot_ind, ← sum_map_add]
  congr 1
  refine List.map_congr_left fun k _ => cn_succ ok h k
end L2.Px
set_option Elab.async false
set_option linter.all false
set_option maxRecDepth 100000
set_option maxHeartbeats 1000000
namespace L2.Px
open PySem PySem.Spec PyProof.Rows StX TL
section
variable {K : PySem.W.Frag} {CT CP CC : Addr} {H H' H1 : Hp} {Q : VK} {E : XK} {a l : Addr} {ss : List Stp} {i j : Int} {L M : List Nat}
theorem IsPl.head {k f : Nat} (ok : okFrom 0 ss) (h : IsPl ss k f L) (hf : f < sz ss) (hk : kat ss f = k) : L[0]?.getD 0 = f ∧ 0 < L.length := by
  have e := tot_succ ok [k] hf
  rw [tot_one, tot_one, hk] at e
  simp at e
  have := cn_mono ss k (show f + 1 ≤ sz ss from hf)
  have hl : 0 < L.length := by have := h.all; omega
  refine ⟨nth_unique (h.nth 0 hl) ⟨hf, ?_, ?_⟩, hl⟩
  · rw [tot_one]; exact Nat.le_refl _
  · rw [tot_one]; omega
variable (K CT CP)
end
end L2.Px
set_option Elab.async false
set_option linter.all false
set_option maxRecDepth 100000
set_option maxHeartbeats 4000000
namespace L2.Px
open PySem PySem.Spec PyProof.Rows
end L2.Px
namespace L2.Px
open PySem PySem.Spec PyProof.Rows
end L2.Px
set_option Elab.async false
set_option linter.all false
set_option maxRecDepth 100000
set_option maxHeartbeats 1000000
namespace L2.Px
open PySem PySem.Spec PyProof.Rows StX TL
section
variable {ss : List Stp} {f l t : Nat}
theorem app_ok (ok : okFrom 0 (ss ++ [.pa f l t])) : okFrom 0 ss ∧ f ≤ l ∧ l < sz ss ∧ 1 ≤ t := by
  rw [okFrom_append, Nat.zero_add] at ok
  obtain ⟨a, ⟨b, c, d, e⟩, _⟩ := ok
  exact ⟨a, b, c, d⟩
end
/-- a list of the steps ss -/
def LX (K : PySem.W.Frag) (H : Hp) (a : Addr) (ss : List Stp) : Prop := ∃ ms, H a = some (.lst ms) ∧ StepsAt K H ms ss
section
variable {K : PySem.W.Frag} {CT CP : Addr} {H H' : Hp} {Q : VK} {E : XK} {a b r p : Addr} {ss : List Stp} {L M : List Nat}
theorem LX.mono (h : LX K H a ss) (e : Same H H') : LX K H' a ss := let ⟨ms, q, s⟩ := h; ⟨ms, e _ _ q, s.mono e⟩
end
end L2.Px
namespace L2.Px
open PySem PySem.Spec PyProof.Rows StX TL
end L2.Px
namespace L2.Px
open PySem PySem.Spec PyProof.Rows StX TL
end L2.Px
namespace L2.Px
open PySem PySem.Spec PyProof.Rows StX TL
/-- rising lists of the same members are equal -/
theorem rising_unique {α : Type} {lt : α → α → Prop} (ir : ∀ a, ¬ lt a a) (tr : ∀ a b c, lt a b → lt b c → lt a c) : ∀ {l m : List α}, l.Pairwise lt → m.Pairwise lt → (∀ x, x ∈ l ↔ x ∈ m) → l = m
  | [], [], _, _, _ => rfl
  | [], y :: m, _, _, h => absurd ((h y).mpr List.mem_cons_self) (List.not_mem_nil)
  | x :: l, [], _, _, h => absurd ((h x).mp List.mem_cons_self) (List.not_mem_nil)
  | x :: l, y :: m, h1, h2, h => by
    obtain ⟨a1, a2⟩ := List.pairwise_cons.mp h1
    obtain ⟨b1, b2⟩ := List.pairwise_cons.mp h2
    have e : x = y := by
      rcases List.mem_cons.mp ((h x).mp List.mem_cons_self) with z | z
      · exact z
      · rcases List.mem_cons.mp ((h y).mpr List.mem_cons_self) with u | u
        · exact u.symm
        · exact absurd (tr _ _ _ (a1 _ u) (b1 _ z)) (ir x)
    subst e
    rw [rising_unique ir tr a2 b2 fun z => ⟨fun hz => ((List.mem_cons.mp ((h z).mp (List.mem_cons_of_mem _ hz))).resolve_left fun e => ir x (by have := a1 _ hz; rwa [e] at this)),
      fun hz => ((List.mem_cons.mp ((h z).mpr (List.mem_cons_of_mem _ hz))).resolve_left fun e => ir x (by have := b1 _ hz; rwa [e] at this))⟩]
end L2.Px
namespace L2.Px
open PySem PySem.Spec PyProof.Rows StX TL
end L2.Px
set_option Elab.async false
set_option linter.all false
set_option maxRecDepth 100000
set_option maxHeartbeats 1000000
namespace L2.Px
open PySem PySem.Spec PyProof.Rows StX TL
end L2.Px
namespace L2.Px
open PySem PySem.Spec PyProof.Rows StX TL
end L2.Px
namespace L2.Px
open PySem PySem.Spec PyProof.Rows StX TL
end L2.Px
set_option Elab.async false
set_option linter.all false
set_option maxRecDepth 100000
set_option maxHeartbeats 1000000
namespace L2.Px
open PySem PySem.Spec PyProof.Rows StX TL
/-- a def of the top whose last parameters have the defaults dvs -/
def DefGF (K : PySem.W.Frag) (mg : Str → Option Value) (x : Str) (st : Stmt) (ps : List Str) (dvs : List V) : Prop :=
  ∃ f fd, L2.FunD K x x (defArgs st) (defBody st) (defScope st) dvs [] f fd ∧ mg x = some (.ref f) ∧ (∃ ds, Vals dvs ds ∧ Binds K fd ps ds) ∧ Binds K fd ps []
section
variable {P : Program} {w : World} {K : PySem.W.Frag} {mg : Str → Option Value} {base : Heap} {k : Nat} {x : Str} {st : Stmt} {ps : List Str} {sp : Sp} {dvs : List V} {h : Heap} {f : Addr}
theorem DefGF.run {N : List Str} (D : DefGF K mg x st ps dvs) (S : FnScope N ps (defScope st)) (len : ∀ vs H Q E, sp vs H Q E → vs.length = ps.length)
    (hbody : ∀ (f : Addr) (cdv : Value) (A : Around) (outer : List Env) (s : Shared) (H : Hp) (vs : List V) (Q : VK) (E : XK), Room k (A.deeper (envOfC x (defScope st) s.heap.objs.size f cdv)) → sp vs H Q E →
      ∃ t, PSs (cxOf CX0 P w K mg base N x (defScope st) f cdv A outer s H E).nox (defBody st) t ∧ t { nx := fun _ H' => Q .non H', rt := Q } (start N vs) H) :
    GOk P w K mg base CX0 (k + 1) x (fun vs => sp (vs ++ dvs)) ∧ GOk P w K mg base CX0 (k + 1) x sp := by
  obtain ⟨f, fd, F, a, ⟨ds, hd, b⟩, b0⟩ := D
  have R := F.ok (CX := CX0) (P := P) (w := w) (mg := mg) (base := base) S len fun cdv A outer s H vs Q E hr h => by
    obtain ⟨t, ht, q⟩ := hbody f cdv A outer s H vs Q E hr h
    exact ⟨t, ht.nox, q⟩
  exact ⟨⟨f, FnOk.toR1 R b hd, a, F.kp⟩, ⟨f, FnOk.toR R b0, a, F.kp⟩⟩
theorem DefGF.ok {N : List Str} (D : DefGF K mg x st ps dvs) (S : FnScope N ps (defScope st)) (len : ∀ vs H Q E, sp vs H Q E → vs.length = ps.length)
    (hbody : ∀ (f : Addr) (cdv : Value) (A : Around) (outer : List Env) (s : Shared) (H : Hp) (vs : List V) (Q : VK) (E : XK), Room k (A.deeper (envOfC x (defScope st) s.heap.objs.size f cdv)) → sp vs H Q E →
      ∃ t, PSs (cxOf CX0 P w K mg base N x (defScope st) f cdv A outer s H E).nox (defBody st) t ∧ t { nx := fun _ H' => Q .non H', rt := Q } (start N vs) H) :
    GOk P w K mg base CX0 (k + 1) x (fun vs => sp (vs ++ dvs)) := (D.run S len hbody).1
end
end L2.Px
set_option Elab.async false
set_option linter.all false
set_option maxRecDepth 100000
set_option maxHeartbeats 1000000
namespace L2.Px
open PySem PySem.Spec PyProof.Rows StX TL
/-- how many keys stand ahead of p -/
noncomputable def few (l : List Nat) (p : Nat) : Nat := open Classical in if h : ∃ m, ∀ x, x ∈ l.take p ↔ x < m then h.choose else 0
section
variable {K : PySem.W.Frag} {CT CP : Addr} {H H' : Hp} {Q : VK} {E : XK} {a b l D : Addr} {ss : List Stp} {i j : Int} {L : List Nat}
theorem rd_dsetd {td ty tx : TE} {σ : St} (h : td σ H fun x H1 => ∃ a, x = .ref a ∧ IsD H1 a ∧ ty σ H1 fun y H2 => tx σ H2 fun z H3 => ∃ (kvs : List (Key × V)) (k : Key), H3 a = some (.dK kvs) ∧ y = kV k ∧ kvs.length < sizeLine ∧
  (∀ v, valV kvs k = some v → Q v H3) ∧ (valV kvs k = none → Q z (upd H3 a (.dK (putK kvs k z))))) : tDSetd td ty tx σ H Q := h
variable (K CT CP)
variable {K CT CP}
end
end L2.Px
set_option Elab.async false
set_option linter.all false
set_option maxRecDepth 100000
set_option maxHeartbeats 1000000
namespace L2.Px
open PySem PySem.Spec PyProof.Rows StX TL
theorem mul_one (a : List Stp) : mulS a 1 = a := if_pos (.inl rfl)
end L2.Px
namespace L2.Px
open PySem PySem.Spec PyProof.Rows StX TL
end L2.Px
namespace L2.Px
open PySem PySem.Spec PyProof.Rows StX TL
end L2.Px
namespace L2.Px
open PySem PySem.Spec PyProof.Rows StX TL
end L2.Px
namespace L2.Px
open PySem PySem.Spec PyProof.Rows StX TL
end L2.Px
namespace L2.Px
open PySem PySem.Spec PyProof.Rows StX TL
end L2.Px
set_option Elab.async false
set_option linter.all false
set_option maxRecDepth 100000
set_option maxHeartbeats 1000000
namespace L2.Px
open PySem PySem.Spec PyProof.Rows StX TL
open Sem (wp)
end L2.Px
set_option Elab.async false
set_option linter.all false
set_option maxRecDepth 100000
set_option maxHeartbeats 1000000
namespace L2.Px
open PySem PySem.Spec PyProof.Rows StX TL
end L2.Px
set_option Elab.async false
set_option linter.all false
set_option maxRecDepth 100000
set_option maxHeartbeats 1000000
namespace L2.Px
open PySem PySem.Spec PyProof.Rows StX TL
/-- the list of pairs (key, letter) at l -/
def ChAt (K : PySem.W.Frag) (H : Hp) (l : Addr) (cs : List (Nat × Nat)) (n : Nat) : Prop :=
  ∃ xs : List V, H l = some (.lst xs) ∧ xs.length = cs.length ∧ ∀ (i : Nat) (c : Nat × Nat), cs[i]? = some c → c.1 < n ∧ 97 ≤ c.2 ∧ c.2 ≤ 122 ∧ ∃ T, xs[i]? = some (V.ref T) ∧ H T = some (.tup [.int (c.1 : Nat), .str ⟨#[c.2]⟩])
section
variable (K : PySem.W.Frag) (CT CP : Addr) {H H' : Hp} {a b l : Addr} {ss tt : List Stp} {cs : List (Nat × Nat)} {n : Nat} {Q : VK} {E : XK}
variable {K CT CP}
theorem ChAt.mono (h : ChAt K H l cs n) (S : Same H H') : ChAt K H' l cs n := by
  obtain ⟨xs, e, hl, hx⟩ := h
  exact ⟨xs, S _ _ e, hl, fun i c hc => let ⟨h1, h2, h3, T, h4, h5⟩ := hx i c hc; ⟨h1, h2, h3, T, h4, S _ _ h5⟩⟩
variable (K CT CP)
variable {K CT CP}
end
end L2.Px
set_option Elab.async false
set_option linter.all false
set_option maxRecDepth 100000
set_option maxHeartbeats 1000000
namespace L2.Px
open PySem PySem.Spec PyProof.Rows StX TL
section
variable {K : PySem.W.Frag} {J : It} {n j : Nat} {it : Nat → V} {te : TE} {vs : List Nat} {σ : St} {H H1 : Hp} {D r l : Addr} {Qd : Hp → Prop} {Q : VK} {ss : List Stp}
theorem LX.kp {a : Addr} {H' : Hp} (h : LX K H a ss) (e : Kp H H') : LX K H' a ss := let ⟨ms, q, s⟩ := h; ⟨ms, e _ _ (nr_refs s.refs) q, s.kp e⟩
end
end L2.Px
set_option Elab.async false
set_option linter.all false
set_option maxRecDepth 100000
set_option maxHeartbeats 1000000
namespace L2.Px
open PySem PySem.Spec PyProof.Rows StX TL
end L2.Px
set_option Elab.async false
set_option linter.all false
set_option maxRecDepth 100000
set_option maxHeartbeats 1000000
namespace L2.Px
open PySem PySem.Spec PyProof.Rows StX TL
section
variable {K : PySem.W.Frag} {CT CP : Addr} {H H' H1 : Hp} {Q : VK} {E : XK} {a b l r : Addr} {ss tt : List Stp} {i j : Int} {L M : List Nat} {f g : Nat → Nat} {cs ds : List Nat} {t1 t2 t3 : TO} {te : TE} {σ : St}
theorem rgV_zero (n : Nat) : rgV 0 (n : Nat) = natV (List.range n) := by
  have := rgV_nat 0 n
  rw [show ((0 : Nat) : Int) = 0 from rfl] at this
  rw [this, Nat.sub_zero, ← List.range_eq_range']
  rfl
variable (K CT CP)
variable {K CT CP}
end
end L2.Px
set_option Elab.async false
set_option linter.all false
set_option maxRecDepth 100000
set_option maxHeartbeats 1000000
namespace L2.Px
open PySem PySem.Spec PyProof.Rows StX TL
/-- f leads each key along the heads hs to its root -/
structure Rt (hs : List Nat) (f : Nat → Nat) : Prop where
  le : ∀ k, k < hs.length → hs[k]?.getD 0 ≤ k
  root : ∀ k, k < hs.length → hs[k]?.getD 0 = k → f k = k
  step : ∀ k, k < hs.length → f k = f (hs[k]?.getD 0)
theorem Rt.spec {hs : List Nat} {f : Nat → Nat} (h : Rt hs f) : ∀ k, k < hs.length → f k ≤ k ∧ hs[f k]?.getD 0 = f k ∧ f (f k) = f k := by
  intro k
  induction k using Nat.strongRecOn with
  | _ k ih =>
    intro hk
    by_cases e : hs[k]?.getD 0 = k
    · have r := h.root k hk e
      rw [r]
      exact ⟨Nat.le_refl _, e, r⟩
    · have l := h.le k hk
      obtain ⟨i1, i2, i3⟩ := ih _ (by omega) (show hs[k]?.getD 0 < hs.length by omega)
      rw [h.step k hk]
      exact ⟨by omega, i2, i3⟩
theorem Rt.start (n : Nat) : Rt (List.range n) id := by
  refine ⟨fun k hk => ?_, fun k _ _ => rfl, fun k hk => ?_⟩ <;> rw [List.length_range] at hk <;> rw [List.getElem?_range hk] <;> simp
/-- f is the ties of P, and no more -/
structure Clo (P : List (Nat × Nat)) (f : Nat → Nat) : Prop where
  tied : ∀ p ∈ P, f p.1 = f p.2
  fix : ∀ g : Nat → Nat, (∀ p ∈ P, g p.1 = g p.2) → ∀ k, g (f k) = g k
theorem Clo.start : Clo [] id := ⟨fun p h => (by cases h), fun g _ k => rfl⟩
def rootsF (f : Nat → Nat) (n : Nat) : List Nat := (List.range n).filter fun r => decide (f r = r)
def memF (f : Nat → Nat) (n r : Nat) : List Nat := (List.range n).filter fun k => decide (f k = r)
end L2.Px
set_option Elab.async false
set_option linter.all false
set_option maxRecDepth 100000
set_option maxHeartbeats 2000000
namespace L2.Px
open PySem PySem.Spec PyProof.Rows StX TL
end L2.Px
set_option Elab.async false
set_option linter.all false
set_option maxRecDepth 100000
set_option maxHeartbeats 2000000
namespace L2.Px
open PySem PySem.Spec PyProof.Rows StX TL
end L2.Px
set_option Elab.async false
set_option linter.all false
set_option maxRecDepth 100000
set_option maxHeartbeats 2000000
namespace L2.Px
open PySem PySem.Spec PyProof.Rows StX TL
section
variable {X : Cx} {K : PySem.W.Frag}
theorem sortIK (hk : X.K = K) : CallR X (.builtin "sorted") (rSortedI K) := hk ▸ cr_sortedI
end
def tieFs (x : Str) (h : Addr) : List (Str × V) := putF "heads" (.ref h) (putF "letters" (.str x) [])
theorem tieFs_no {x m : Str} {h : Addr} (z : m ≠ "heads" ∧ m ≠ "letters") : (tieFs x h).lookup m = none := by
  unfold tieFs; rw [lookup_putF, if_neg z.1, lookup_putF, if_neg z.2]; rfl
/-- the ties at t of the keys with letters L: f leads to the roots -/
structure TieA (CI : Addr) (H : Hp) (t dx h : Addr) (L hs : List Nat) (f : Nat → Nat) : Prop where
  ins : H t = some (.ins CI dx (tieFs (mkS L) h))
  lst : H h = some (.lst (natV hs))
  rt : Rt hs f
  len : hs.length = L.length
  ne : h ≠ t
section
variable {K : PySem.W.Frag} {CI CT CP : Addr} {H H' H1 : Hp} {t dx h l r p : Addr} {L hs hs' M A B : List Nat} {f f' : Nat → Nat} {Q : VK} {E : XK} {cs : List (List Nat)} {i j : Int} {ss tt : List Stp} {a b : Addr}
theorem TieA.mono (z : TieA CI H t dx h L hs f) (S : Same H H') : TieA CI H' t dx h L hs f := ⟨S _ _ z.ins, S _ _ z.lst, z.rt, z.len, z.ne⟩
theorem TieA.next (z : TieA CI H t dx h L hs f) (B : But h H H') (e : H' h = some (.lst (natV hs'))) (r : Rt hs' f') (n : hs'.length = hs.length) : TieA CI H' t dx h L hs' f' := ⟨B _ _ (Ne.symm z.ne) z.ins, e, r, by rw [n, z.len], z.ne⟩
theorem TieA.insM {m : Str} (z : TieA CI H t dx h L hs f) (hm : m ≠ "heads" ∧ m ≠ "letters" := by decide +kernel) : InsM H t CI m := ⟨dx, _, z.ins, tieFs_no hm⟩
/-- the list at l holds the lists cs -/
def ClsAt (H : Hp) (l : Addr) (cs : List (List Nat)) : Prop := ∃ as : List Addr, H l = some (.lst (as.map V.ref)) ∧ as.length = cs.length ∧ ∀ (i : Nat) c, cs[i]? = some c → ∃ a, as[i]? = some a ∧ H a = some (.lst (natV c))
theorem ClsAt.mono (z : ClsAt H l cs) (S : Same H H') : ClsAt H' l cs := let ⟨as, e, n, g⟩ := z; ⟨as, S _ _ e, n, fun i c hc => let ⟨a, x, y⟩ := g i c hc; ⟨a, x, S _ _ y⟩⟩
variable (K CI CT CP)
variable {K CI CT CP}
end
end L2.Px
set_option Elab.async false
set_option linter.all false
set_option maxRecDepth 100000
set_option maxHeartbeats 1000000
namespace L2.Px
open PySem PySem.Spec PyProof.Rows StX TL
def kvR (rs : List Nat) (cl : Nat → Addr) : List (Key × V) := rs.map fun (r : Nat) => ((Sum.inl (r : Int) : Key), V.ref (cl r))
/-- the first i keys are gathered in the dict at D; cl tells the lists -/
structure ClsW (f : Nat → Nat) (H H' : Hp) (D : Addr) (i : Nat) (cl : Nat → Addr) : Prop where
  same : Same H H'
  dict : H' D = some (.dK (kvR (rootsF f i) cl))
  cls : ∀ r ∈ rootsF f i, H (cl r) = none ∧ cl r ≠ D ∧ H' (cl r) = some (.lst (natV (memF f i r)))
  inj : ∀ r r', r ∈ rootsF f i → r' ∈ rootsF f i → cl r = cl r' → r = r'
section
variable {f : Nat → Nat} {H H' H1 : Hp} {D p : Addr} {i : Nat} {cl : Nat → Addr}
theorem ClsW.start (hD : H D = none) : ClsW f H (upd H D (.dK [])) D 0 cl := ⟨Same.new (Same.refl _) hD, upd_same, fun r hr => by simp [rootsF] at hr, fun r r' hr => by simp [rootsF] at hr⟩
theorem ClsW.mono (w : ClsW f H H' D i cl) (S : Same H' H1) : ClsW f H H1 D i cl := ⟨w.same.trans S, S _ _ w.dict, fun r hr => let ⟨a, b, c⟩ := w.cls r hr; ⟨a, b, S _ _ c⟩, w.inj⟩
end
end L2.Px
set_option Elab.async false
set_option linter.all false
set_option maxRecDepth 100000
set_option maxHeartbeats 1000000
namespace L2.Px
open PySem PySem.Spec PyProof.Rows StX TL
section
variable {J : It} {n : Nat} {it : Nat → V} {H1 : Hp} {tt : TT} {te : TE} {vs : List Nat} {σ : St} {D : Addr} {Qd : Hp → Prop} {j : Nat}
/-- ys answers the numbers is, one by one -/
def Ans (Rl : Nat → V → Hp → Prop) (H : Hp) (is : List Nat) (ys : List V) : Prop := ys.length = is.length ∧ ∀ (k i : Nat), is[k]? = some i → ∃ y, ys[k]? = some y ∧ Rl i y H
theorem Ans.snoc {Rl : Nat → V → Hp → Prop} {H H' : Hp} {is : List Nat} {ys : List V} (a : Ans Rl H is ys) {i : Nat} {y : V} (m : ∀ i y, Rl i y H → Rl i y H') (r : Rl i y H') : Ans Rl H' (is ++ [i]) (ys ++ [y]) := by
  refine ⟨by simp [a.1], fun k x hk => ?_⟩
  by_cases h : k < is.length
  · rw [List.getElem?_append_left h] at hk
    obtain ⟨z, h1, h2⟩ := a.2 k x hk
    exact ⟨z, by rw [List.getElem?_append_left (by rw [a.1]; exact h)]; exact h1, m _ _ h2⟩
  · have hl : k < (is ++ [i]).length := (List.getElem?_eq_some_iff.mp hk).1
    have hk0 : k = is.length := by simp at hl; omega
    subst hk0
    rw [List.getElem?_append_right (Nat.le_refl _), Nat.sub_self] at hk
    cases hk
    exact ⟨y, by rw [List.getElem?_append_right (by rw [a.1]; exact Nat.le_refl _), a.1, Nat.sub_self]; rfl, r⟩
theorem Ans.mono {Rl : Nat → V → Hp → Prop} {H H' : Hp} {is : List Nat} {ys : List V} (a : Ans Rl H is ys) (m : ∀ i y, Rl i y H → Rl i y H') : Ans Rl H' is ys := ⟨a.1, fun k i hk => let ⟨y, h1, h2⟩ := a.2 k i hk; ⟨y, h1, m _ _ h2⟩⟩
end
section
variable {K : PySem.W.Frag} {H H' : Hp} {l p F : Addr} {cs ds : List (Nat × Nat)} {n : Nat} {Q : VK}
theorem ChAt.but (h : ChAt K H l cs n) (B : But F H H') {xs : List V} (hF : H F = some (.lst xs)) (ne : l ≠ F) : ChAt K H' l cs n := by
  obtain ⟨xs, e, hl, hx⟩ := h
  exact ⟨xs, B _ _ ne e, hl, fun i c hc => let ⟨h1, h2, h3, T, h4, h5⟩ := hx i c hc; ⟨h1, h2, h3, T, h4, B _ _ (fun z => by subst z; rw [hF] at h5; cases h5) h5⟩⟩
end
end L2.Px
set_option Elab.async false
set_option linter.all false
set_option maxRecDepth 100000
set_option maxHeartbeats 2000000
namespace L2.Px
open PySem PySem.Spec PyProof.Rows StX TL
section
variable {K : PySem.W.Frag} {CI CT CP : Addr} {H H' H1 : Hp} {a b l r p : Addr} {L M : List Nat} {Q : VK} {E : XK} {cs ds : List (Nat × Nat)} {cl : List (List Nat)} {i j : Int} {ss tt : List Stp} {n c : Nat} {X : Cx}
theorem ClsAt.get (h : ClsAt H l cl) {i : Nat} {c : List Nat} (hc : cl[i]? = some c) : ∃ as : List Addr, H l = some (.lst (as.map V.ref)) := let ⟨as, e, _⟩ := h; ⟨as, e⟩
theorem ChAt.drop {xs : List V} (h : ChAt K H l cs n) (hx : H l = some (.lst xs)) (j : Nat) (e : H p = some (.lst (xs.drop j))) : ChAt K H p (cs.drop j) n := by
  obtain ⟨xs', ex, hl, hc⟩ := h
  rw [hx] at ex
  cases ex
  exact ⟨_, e, by rw [List.length_drop, List.length_drop, hl], fun i c hi => by rw [List.getElem?_drop] at hi ⊢; exact hc _ c hi⟩
variable (K CT CP)
variable {K CT CP}
end
end L2.Px
set_option Elab.async false
set_option linter.all false
set_option maxRecDepth 100000
set_option maxHeartbeats 2000000
namespace L2.Px
open PySem PySem.Spec PyProof.Rows StX TL
end L2.Px
set_option Elab.async false
set_option linter.all false
set_option maxRecDepth 100000
set_option maxHeartbeats 1000000
namespace L2.Px
open PySem PySem.Spec PyProof.Rows StX TL ClX
/-- v as a step of a text of n places: b whether it is one -/
def StVal (K : PySem.W.Frag) (H : Hp) (n : Int) (v : V) (b : Bool) : Prop := (NoSeq v ∧ b = false) ∨ ∃ a xs, v = .ref a ∧ (∀ x ∈ xs, NoSeq x ∧ ∀ z, x = .str z → z.length ≤ sizeLine) ∧ ((SqT K H a xs ∧ b = isSt n xs) ∨ (SqL K H a xs ∧ b = false))
def sp_is_stepG (K : PySem.W.Frag) : Sp := fun vs H Q _ => ∃ (v : V) (n : Nat) (b : Bool), vs = [v, .int n] ∧ StVal K H n v b ∧ ∀ H', Same H H' → Q (.bl b) H'
/-- the values rs are no steps of a text -/
def Rej (K : PySem.W.Frag) (CIS CTL : Addr) (E : XK) (H : Hp) (rs : List V) : Prop := ∃ (ss : List Stp) (v : V), StepsAt K H (rs.take ss.length) ss ∧ okFrom 0 ss ∧ rs[ss.length]? = some v ∧ ss.length ≤ 30 ∧
  (((ss.length = 30 ∨ StVal K H (sz ss : Nat) v false) ∧ ∀ d H', Same H H' → H' d = some (.xd [("index", .int (ss.length : Nat))]) → E (.ref CIS) (some d) H') ∨
    ∃ s, StepAt K H v s ∧ okStep (sz ss) s ∧ ss.length < 30 ∧ 1000000000000000000 < sz ss + len1 s ∧ ∀ H', Same H H' → E (.ref CTL) none H')
section
variable {K : PySem.W.Frag} {CIS CTL CT CP : Addr} {E : XK} {H H' : Hp} {rs : List V} {v : V} {n : Int} {b : Bool} {Q : VK}
theorem StVal.mono (e : Same H H') (h : StVal K H n v b) : StVal K H' n v b := by
  rcases h with h | ⟨a, xs, ev, hx, h | h⟩
  · exact .inl h
  · exact .inr ⟨a, xs, ev, hx, .inl ⟨Same.tup e h.1, h.2⟩⟩
  · exact .inr ⟨a, xs, ev, hx, .inr ⟨e.seq h.1, h.2⟩⟩
theorem Rej.mono (e : Same H H') (h : Rej K CIS CTL E H rs) : Rej K CIS CTL E H' rs := by
  obtain ⟨ss, v, h1, h2, h3, h4, h5⟩ := h
  refine ⟨ss, v, h1.mono e, h2, h3, h4, ?_⟩
  rcases h5 with ⟨h5, h6⟩ | ⟨s, a1, a2, a3, a4, a5⟩
  · exact .inl ⟨h5.imp id (·.mono e), fun d H'' S hd => h6 d H'' (e.trans S) hd⟩
  · exact .inr ⟨s, a1.mono e, a2, a3, a4, fun H'' S => a5 H'' (e.trans S)⟩
end
theorem StepAt.val {K : PySem.W.Frag} {H : Hp} {v : V} {s : Stp} {n : Nat} (h : StepAt K H v s) (ok : okStep n s) : StVal K H (n : Nat) v true := by
  obtain ⟨a, rfl, hq⟩ := h
  refine .inr ⟨a, stV s, rfl, fun x hx => ⟨stV_noseq s x hx, fun z hz => ?_⟩, .inl ⟨hq, ?_⟩⟩
  · subst hz
    cases s with
    | wr w =>
      simp only [stV, List.mem_cons, List.not_mem_nil, or_false, V.str.injEq] at hx
      rcases hx with rfl | rfl
      · rw [sizeLine_eq]; decide
      · exact str_small ok.2.1
    | pa f l t =>
      simp only [stV, List.mem_cons, List.not_mem_nil, or_false, V.str.injEq, reduceCtorEq] at hx
      subst hx
      rw [sizeLine_eq]; decide
  · cases s with
    | wr w =>
      have e : isWd (.str w) = true := decide_eq_true (by rw [← len_tl]; exact ok)
      simp [stV, isSt, e]
    | pa f l t =>
      obtain ⟨o1, o2, o3, o4⟩ := ok
      have e1 : isInt 0 ((n : Int) - 1) (.int l) = true := decide_eq_true (by omega)
      have e2 : isInt 0 (l : Int) (.int f) = true := decide_eq_true (by omega)
      have e3 : isInt 1 1000000000 (.int t) = true := decide_eq_true (by omega)
      simp [stV, isSt, e1, e2, e3, intOf]
section
variable (K : PySem.W.Frag) (CIS CTL CT CP : Addr)
def sp_Text_initR : Sp := fun vs H _ E => ∃ x dx m rs, vs = [.ref x, .ref m] ∧ H x = some (.ins CT dx []) ∧ SqT K H m rs ∧ Rej K CIS CTL E H rs
end
def sp_Text_check_placeR (K : PySem.W.Frag) (CIP CT CP : Addr) : Sp := fun vs H _ E => ∃ a t v, vs = [.ref a, v] ∧ TextAt K CT CP H a t ∧ NoSeq v ∧ isInt 0 ((sz t.ss : Int) - 1) v = false ∧ E (.ref CIP) none H
def sp_Text_callR := sp_Text_check_placeR
section
variable {K : PySem.W.Frag} {CIS CTL CT CP : Addr} {E : XK} {H : Hp} {rs : List V} {Q : VK}
theorem rd_mkTextR (h : Rej K CIS CTL E H rs) (hz : rs.length ≤ sizeLine) : rMk CT (spStar 1 (sp_Text_initR K CIS CTL CT)) E rs H Q := by
  intro x dx nx ndx hn
  refine ⟨[.ref x], rs, rfl, rfl, hz, fun p hp => ⟨x, dx, p, rs, rfl, ?_, SqT.of upd_same, ?_⟩⟩
  · rw [upd_ne fun z => by subst z; rw [upd_same] at hp; cases hp]; exact upd_same
  · refine h.mono ?_
    exact Same.new (Same.new (Same.new (Same.refl _) ndx) (by rw [upd_ne fun z => hn z.symm]; exact nx)) hp
end
end L2.Px
set_option Elab.async false
set_option linter.all false
set_option maxRecDepth 100000
set_option maxHeartbeats 1000000
namespace L2.Px
open PySem PySem.Spec PyProof.Rows StX TL ClX LamX
def sp_lawL (K : PySem.W.Frag) (T : List (Addr × Str)) : Sp := fun vs H Q _ => ∃ (a : Addr) (sc : List Int), vs = [.ref a] ∧ SqL K H a (sc.map V.int) ∧ Tabs T H ∧ ∀ H', Q (.bl true) H'
section
variable {K : PySem.W.Frag} {CT CP : Addr} {H H' H1 : Hp} {Q : VK} {E : XK} {a b r p q : Addr} {ss tt : List Stp} {i j : Int} {v : V} {o : HO} {xs : List V} {L : List Nat} {T : List (Addr × Str)}
theorem Kl.at_ (e : Kl T H H') (n : ¬ isRow o) (m : ∀ ps, o ≠ .tbl ps) (h : H a = some o) : H' a = some o := e.keep a o n m h
theorem StepAt.kl {s : Stp} (h : StepAt K H v s) (e : Kl T H H') : StepAt K H' v s := let ⟨a, ev, q⟩ := h; ⟨a, ev, e.tup q⟩
theorem StepsAt.kl {ms : List V} (h : StepsAt K H ms ss) (e : Kl T H H') : StepsAt K H' ms ss := ⟨h.1, fun j s q => let ⟨v, a, b⟩ := h.2 j s q; ⟨v, a, b.kl e⟩⟩
theorem PartAt.kl {n y : Nat} {s : Stp} (h : PartAt CP H v n y s) (e : Kl T H H') : PartAt CP H' v n y s := by
  cases s with
  | wr w => obtain ⟨p, dx, ev, q⟩ := h; exact ⟨p, dx, ev, e.keep _ _ nr_ins (fun _ z => nomatch z) q⟩
  | pa f l t => obtain ⟨p, dx, ev, q⟩ := h; exact ⟨p, dx, ev, e.keep _ _ nr_ins (fun _ z => nomatch z) q⟩
theorem PartsAt.kl {ps : List V} (h : PartsAt CP H ps ss) (e : Kl T H H') : PartsAt CP H' ps ss := ⟨h.1, fun j s q => let ⟨v, a, b⟩ := h.2 j s q; ⟨v, a, b.kl e⟩⟩
theorem TextAt.kl {t : TxI} (h : TextAt K CT CP H a t) (e : Kl T H H') : TextAt K CT CP H' a t :=
  ⟨e.keep _ _ nr_ins (fun _ z => nomatch z) h.ins, e.tup h.made, h.stp.kl e, e.keep _ _ (nr_refs h.prt.refs) (fun _ z => nomatch z) h.pls, h.prt.kl e, h.ok, h.few⟩
theorem TX.kl (h : TX K CT CP H a ss) (e : Kl T H H') : TX K CT CP H' a ss := let ⟨t, x, y⟩ := h; ⟨t, x.kl e, y⟩
theorem TS'.kl (h : TS' K H a ss) (e : Kl T H H') : TS' K H' a ss := let ⟨ms, x, y⟩ := h; ⟨ms, e.tup x, y.kl e⟩
theorem SX.kl (h : SX K H a ss) (e : Kl T H H') : SX K H' a ss := let ⟨ms, x, y⟩ := h; ⟨ms, x.imp (e.tup ·) (e.keep _ _ (nr_refs y.refs) (fun _ z => nomatch z) ·), y.kl e⟩
theorem kl_natV {l : Addr} (h : H l = some (.lst (natV L))) (k : Kl T H H') : H' l = some (.lst (natV L)) := k.keep _ _ nr_natV (fun _ z => nomatch z) h
theorem kl_sgV {l : Addr} (h : H l = some (.lst (sgV L))) (k : Kl T H H') : H' l = some (.lst (sgV L)) := k.keep _ _ nr_sgV (fun _ z => nomatch z) h
theorem rd_mkL {IL : Addr → Hp → Prop} {σ : St} (hT : Tabs T H) (h : ∀ f H1, Kx T H H1 → H f = none → IL f H1 → Q (.ref f) H1) : tMkL T IL σ H Q := ⟨hT, h⟩
variable {CIP CIK CIL CIN CTL CIS : Addr}
theorem rd_oCallR (h : TX K CT CP H a ss) (hv : NoSeq v) (hi : isInt 0 ((sz ss : Int) - 1) v = false) (k : E (.ref CIP) none H) : InsA H a CT ∧ sp_Text_callR K CIP CT CP [.ref a, v] H Q E := by
  obtain ⟨t, ht, rfl⟩ := h
  exact ⟨ht.insA, a, t, v, rfl, ht, hv, hi, k⟩
end
end L2.Px
set_option Elab.async false
set_option linter.all false
set_option maxRecDepth 100000
set_option maxHeartbeats 1000000
namespace L2.Px
open PySem PySem.Spec PyProof.Rows StX TL ClX LamX
structure Km (C : Addr) (T : List (Addr × Str)) (H H' : Hp) : Prop where
  keep : ∀ b o, ¬ isRow o → (∀ ps, o ≠ .tbl ps) → (∀ dx fs, o ≠ .ins C dx fs) → H b = some o → H' b = some o
  rows : ∀ (b sa : Addr) (i s e : Int), H b = some (.lst [.ref sa, .int i, .int s, .int e]) → ∃ i' s' e' : Int, H' b = some (.lst [.ref sa, .int i', .int s', .int e'])
  tabs : Tabs T H → Tabs T H'
section
variable {K : PySem.W.Frag} {CT CP C : Addr} {T : List (Addr × Str)} {H H' H1 : Hp} {a e l : Addr} {o : HO} {v : V} {xs ms ps : List V} {s : Stp} {ss : List Stp} {t : TxI} {L : List Nat} {n y : Nat}
theorem Km.refl : Km C T H H := ⟨fun _ _ _ _ _ h => h, fun _ _ _ _ _ h => ⟨_, _, _, h⟩, id⟩
theorem Km.trans (a : Km C T H H1) (b : Km C T H1 H') : Km C T H H' := ⟨fun c o hc hn hi h => b.keep c o hc hn hi (a.keep c o hc hn hi h), fun c sa i s e h => let ⟨i', s', e', h'⟩ := a.rows c sa i s e h; b.rows c sa i' s' e' h', fun t => b.tabs (a.tabs t)⟩
theorem Km.kl (e : Kl T H H') : Km C T H H' := ⟨fun b o hr ht _ h => e.keep b o hr ht h, e.rows, e.tabs⟩
theorem Km.same (e : Same H H') : Km C T H H' := .kl (.same e)
theorem Km.kp (e : Kp H H') : Km C T H H' := .kl (.kp e)
theorem But.ins {x : Addr} (e : But x H H') {dx : Addr} {fs : List (Str × V)} (hx : H x = some (.ins C dx fs)) (hn : ∀ dx fs, o ≠ .ins C dx fs) (h : H a = some o) : H' a = some o :=
  e a o (fun z => hn dx fs (by subst z; rw [hx] at h; exact (Option.some.inj h).symm)) h
theorem Km.but {x dx : Addr} {fs : List (Str × V)} (e : But x H H') (hx : H x = some (.ins C dx fs)) : Km C T H H' := by
  refine .mk (fun b o _ _ hi h => ?a) (fun b sa i s n h => ?b) (fun t p hp => ?_)
  · exact e.ins hx hi h
  · exact ⟨_, _, _, e.ins hx (fun _ _ z => nomatch z) h⟩
  obtain ⟨ps, h1, h2, h3⟩ := t p hp
  refine ⟨ps, e.ins hx (fun _ _ z => nomatch z) h1, h2, fun pos cv hc => ?_⟩
  obtain ⟨c, h4, h5⟩ := h3 pos cv hc
  exact ⟨c, h4, e.ins hx (fun _ _ z => nomatch z) h5⟩
theorem Km.tup (e : Km C T H H') (h : SqT K H a xs) : SqT K H' a xs := by
  rcases h with (h | ⟨o, h⟩) | h
  · exact .inl (.inl (e.keep _ _ nr_tup (fun ps z => nomatch z) (fun _ _ z => nomatch z) h))
  · exact .inl (.inr ⟨o, e.keep _ _ nr_frz (fun ps z => nomatch z) (fun _ _ z => nomatch z) h⟩)
  · exact .inr h
theorem Km.lst (e : Km C T H H') (n : ¬ isRow (.lst xs)) (h : SqL K H a xs) : SqL K H' a xs := by
  rcases h with (h | ⟨o, h⟩) | h
  · exact .inl (.inl (e.keep _ _ n (fun ps z => nomatch z) (fun _ _ z => nomatch z) h))
  · exact .inl (.inr ⟨o, e.keep _ _ nr_frz (fun ps z => nomatch z) (fun _ _ z => nomatch z) h⟩)
  · exact .inr h
theorem Km.li (e : Km C T H H') (n : ¬ isRow (.lst xs)) (h : H a = some (.lst xs)) : H' a = some (.lst xs) := e.keep _ _ n (fun _ z => nomatch z) (fun _ _ z => nomatch z) h
theorem Km.tu (e : Km C T H H') (h : H a = some (.tup xs)) : H' a = some (.tup xs) := e.keep _ _ nr_tup (fun _ z => nomatch z) (fun _ _ z => nomatch z) h
theorem StepAt.km (h : StepAt K H v s) (e : Km C T H H') : StepAt K H' v s := let ⟨a, ev, q⟩ := h; ⟨a, ev, e.tup q⟩
theorem StepsAt.km (h : StepsAt K H ms ss) (e : Km C T H H') : StepsAt K H' ms ss := ⟨h.1, fun j s q => let ⟨v, a, b⟩ := h.2 j s q; ⟨v, a, b.km e⟩⟩
theorem ins_ne {D dx : Addr} {fs : List (Str × V)} (hn : D ≠ C) : ∀ dx' fs', HO.ins D dx fs ≠ .ins C dx' fs' := fun dx' fs' z => hn (by cases z; rfl)
theorem PartAt.km (hn : CP ≠ C) (h : PartAt CP H v n y s) (e : Km C T H H') : PartAt CP H' v n y s := by
  cases s with
  | wr w => obtain ⟨p, dx, ev, q⟩ := h; exact ⟨p, dx, ev, e.keep _ _ nr_ins (fun _ z => nomatch z) (ins_ne hn) q⟩
  | pa f l t => obtain ⟨p, dx, ev, q⟩ := h; exact ⟨p, dx, ev, e.keep _ _ nr_ins (fun _ z => nomatch z) (ins_ne hn) q⟩
theorem PartsAt.km (hn : CP ≠ C) (h : PartsAt CP H ps ss) (e : Km C T H H') : PartsAt CP H' ps ss := ⟨h.1, fun j s q => let ⟨v, a, b⟩ := h.2 j s q; ⟨v, a, b.km hn e⟩⟩
theorem TextAt.km (hT : CT ≠ C) (hP : CP ≠ C) (h : TextAt K CT CP H a t) (e : Km C T H H') : TextAt K CT CP H' a t :=
  ⟨e.keep _ _ nr_ins (fun _ z => nomatch z) (ins_ne hT) h.ins, e.tup h.made, h.stp.km e, e.keep _ _ (nr_refs h.prt.refs) (fun _ z => nomatch z) (fun _ _ z => nomatch z) h.pls, h.prt.km hP e, h.ok, h.few⟩
theorem TX.km (h : TX K CT CP H a ss) (hT : CT ≠ C) (hP : CP ≠ C) (e : Km C T H H') : TX K CT CP H' a ss := let ⟨t, x, y⟩ := h; ⟨t, x.km hT hP e, y⟩
theorem TS'.km (h : TS' K H a ss) (e : Km C T H H') : TS' K H' a ss := let ⟨ms, x, y⟩ := h; ⟨ms, e.tup x, y.km e⟩
theorem SX.km (h : SX K H a ss) (e : Km C T H H') : SX K H' a ss := let ⟨ms, x, y⟩ := h; ⟨ms, x.imp (e.tup ·) (e.keep _ _ (nr_refs y.refs) (fun _ z => nomatch z) (fun _ _ z => nomatch z) ·), y.km e⟩
theorem km_natV (h : H l = some (.lst (natV L))) (k : Km C T H H') : H' l = some (.lst (natV L)) := k.li nr_natV h
theorem But.seqL {x dx : Addr} {fs : List (Str × V)} (e : But x H H') (hx : H x = some (.ins C dx fs)) (h : SqL K H a xs) : SqL K H' a xs := by
  rcases h with (h | ⟨o, h⟩) | h
  · exact .inl (.inl (e.ins hx (fun _ _ z => nomatch z) h))
  · exact .inl (.inr ⟨o, e.ins hx (fun _ _ z => nomatch z) h⟩)
  · exact .inr h
theorem RowAt.but {x dx r : Addr} {fs : List (Str × V)} (h : RowAt K H r) (e : But x H H') (hx : H x = some (.ins C dx fs)) : RowAt K H' r :=
  let ⟨sa, sc, i, s, n, a, b⟩ := h.ex; ⟨sa, sc, i, s, n, e.ins hx (fun _ _ z => nomatch z) a, e.seqL hx b⟩
end
inductive Op where
  | st (s : Stp)
  | re (p c : Nat)
deriving DecidableEq
def opV : Op → List V
  | .st s => stV s
  | .re p c => [.str "retype", .int (p : Nat), .str ⟨#[c]⟩]
def OpAt (K : PySem.W.Frag) (H : Hp) (v : V) (o : Op) : Prop := ∃ a, v = .ref a ∧ SqT K H a (opV o)
/-- the text after an operation -/
def aft (ss : List Stp) : Op → List Stp
  | .st s => ss ++ [s]
  | .re p c => rt (kat ss p) c 0 ss
/-- what an operation answers -/
def opN (ss : List Stp) : Op → Nat
  | .st s => sz (ss ++ [s])
  | .re p c => if lat ss (kat ss p) = c then 0 else cn ss (sz ss) (kat ss p)
def okOp (ss : List Stp) : Op → Prop
  | .st s => okStep (sz ss) s ∧ ss.length < 30 ∧ sz ss + len1 s ≤ 1000000000000000000
  | .re p c => p < sz ss ∧ 97 ≤ c ∧ c ≤ 122
/-- an entry of an editor: the operation, the texts before and after -/
structure Ent where
  o : Op
  b : List Stp
  a : List Stp
def EntAt (K : PySem.W.Frag) (CT CP : Addr) (H : Hp) (v : V) (e : Ent) : Prop := ∃ t o b a, v = .ref t ∧ SqT K H t [o, .ref b, .ref a] ∧ OpAt K H o e.o ∧ TX K CT CP H b e.b ∧ TX K CT CP H a e.a
def EntsAt (K : PySem.W.Frag) (CT CP : Addr) (H : Hp) (ms : List V) (es : List Ent) : Prop := ms.length = es.length ∧ ∀ (j : Nat) e, es[j]? = some e → ∃ v, ms[j]? = some v ∧ EntAt K CT CP H v e
/-- an editor's fields -/
def edF (p d u kp kd ku : V) : List (Str × V) := [("present", p), ("done", d), ("undone", u), ("is_open", .bl false), ("kept_present", kp), ("kept_done", kd), ("kept_undone", ku)]
section
variable {p d u kp kd ku v : V} {f : Str}
theorem putF_hit {g : Str} {v x : V} {r : List (Str × V)} : putF g v ((g, x) :: r) = (g, v) :: r := if_pos rfl
theorem putF_nil {g : Str} {v : V} : putF g v [] = [(g, v)] := rfl
theorem putF_miss {f g : Str} {v x : V} {r : List (Str × V)} (h : g ≠ f) : putF f v ((g, x) :: r) = (g, x) :: putF f v r := if_neg h
theorem edF_present : (edF p d u kp kd ku).lookup ("present" : Str) = some p := by unfold edF; rw [List.lookup_cons_self]
theorem edF_done : (edF p d u kp kd ku).lookup ("done" : Str) = some d := by
  unfold edF; rw [List.lookup_cons, show (("done" : Str) == "present") = false by decide +kernel]; simp only; rw [List.lookup_cons_self]
theorem edF_undone : (edF p d u kp kd ku).lookup ("undone" : Str) = some u := by
  unfold edF; rw [List.lookup_cons, show (("undone" : Str) == "present") = false by decide +kernel]; simp only
  rw [List.lookup_cons, show (("undone" : Str) == "done") = false by decide +kernel]; simp only; rw [List.lookup_cons_self]
theorem edF_put_p : putF "present" v (edF p d u kp kd ku) = edF v d u kp kd ku := putF_hit
theorem edF_put_d : putF "done" v (edF p d u kp kd ku) = edF p v u kp kd ku := by unfold edF; rw [putF_miss (by decide +kernel), putF_hit]
theorem edF_put_u : putF "undone" v (edF p d u kp kd ku) = edF p d v kp kd ku := by unfold edF; rw [putF_miss (by decide +kernel), putF_miss (by decide +kernel), putF_hit]
theorem edF_no (h : f ≠ "present" ∧ f ≠ "done" ∧ f ≠ "undone" ∧ f ≠ "is_open" ∧ f ≠ "kept_present" ∧ f ≠ "kept_done" ∧ f ≠ "kept_undone") : (edF p d u kp kd ku).lookup f = none := by
  unfold edF
  simp only [List.lookup_cons, beq_false_of_ne h.1, beq_false_of_ne h.2.1, beq_false_of_ne h.2.2.1, beq_false_of_ne h.2.2.2.1, beq_false_of_ne h.2.2.2.2.1, beq_false_of_ne h.2.2.2.2.2.1, beq_false_of_ne h.2.2.2.2.2.2, List.lookup_nil]
theorem edF_len : (edF p d u kp kd ku).length < 1000 := by show 7 < 1000; decide
/-- as __init__ makes them -/
theorem edF_made {p d u kp kd ku : V} : putF "kept_undone" ku (putF "kept_done" kd (putF "kept_present" kp (putF "is_open" (.bl false) (putF "undone" u (putF "done" d (putF "present" p [])))))) = edF p d u kp kd ku := by
  unfold edF
  rw [putF_nil]
  rw [putF_miss (f := "done") (g := "present") (by decide +kernel), putF_nil]
  rw [putF_miss (f := "undone") (g := "present") (by decide +kernel), putF_miss (f := "undone") (g := "done") (by decide +kernel), putF_nil]
  rw [putF_miss (f := "is_open") (g := "present") (by decide +kernel), putF_miss (f := "is_open") (g := "done") (by decide +kernel), putF_miss (f := "is_open") (g := "undone") (by decide +kernel), putF_nil]
  rw [putF_miss (f := "kept_present") (g := "present") (by decide +kernel), putF_miss (f := "kept_present") (g := "done") (by decide +kernel), putF_miss (f := "kept_present") (g := "undone") (by decide +kernel), putF_miss (f := "kept_present") (g := "is_open") (by decide +kernel), putF_nil]
  rw [putF_miss (f := "kept_done") (g := "present") (by decide +kernel), putF_miss (f := "kept_done") (g := "done") (by decide +kernel), putF_miss (f := "kept_done") (g := "undone") (by decide +kernel), putF_miss (f := "kept_done") (g := "is_open") (by decide +kernel), putF_miss (f := "kept_done") (g := "kept_present") (by decide +kernel), putF_nil]
  rw [putF_miss (f := "kept_undone") (g := "present") (by decide +kernel), putF_miss (f := "kept_undone") (g := "done") (by decide +kernel), putF_miss (f := "kept_undone") (g := "undone") (by decide +kernel), putF_miss (f := "kept_undone") (g := "is_open") (by decide +kernel), putF_miss (f := "kept_undone") (g := "kept_present") (by decide +kernel), putF_miss (f := "kept_undone") (g := "kept_done") (by decide +kernel), putF_nil]
end
/-- an editor: its text, what is done and what is undone -/
structure EdI where
  dx : Addr
  p : Addr
  d : Addr
  u : Addr
  kp : V
  kd : V
  ku : V
  dm : List V
  um : List V
  ss : List Stp
  ds : List Ent
  us : List Ent
structure EdAtI (K : PySem.W.Frag) (CT CP CE : Addr) (H : Hp) (e : Addr) (i : EdI) : Prop where
  ins : H e = some (.ins CE i.dx (edF (.ref i.p) (.ref i.d) (.ref i.u) i.kp i.kd i.ku))
  tx : TX K CT CP H i.p i.ss
  dn : SqT K H i.d i.dm
  de : EntsAt K CT CP H i.dm i.ds
  un : SqT K H i.u i.um
  ue : EntsAt K CT CP H i.um i.us
def EdAt (K : PySem.W.Frag) (CT CP CE : Addr) (H : Hp) (e : Addr) (ss : List Stp) (ds us : List Ent) : Prop := ∃ i, EdAtI K CT CP CE H e i ∧ i.ss = ss ∧ i.ds = ds ∧ i.us = us
section
variable {K : PySem.W.Frag} {CT CP CE C : Addr} {T : List (Addr × Str)} {H H' : Hp} {a e x : Addr} {v : V} {o : Op} {en : Ent} {es ds us : List Ent} {ms : List V} {ss : List Stp} {i : EdI}
theorem OpAt.km (h : OpAt K H v o) (k : Km C T H H') : OpAt K H' v o := let ⟨a, ev, q⟩ := h; ⟨a, ev, k.tup q⟩
theorem EntAt.km (hT : CT ≠ C) (hP : CP ≠ C) (h : EntAt K CT CP H v en) (k : Km C T H H') : EntAt K CT CP H' v en := let ⟨t, o, b, a, ev, q, h1, h2, h3⟩ := h; ⟨t, o, b, a, ev, k.tup q, h1.km k, h2.km hT hP k, h3.km hT hP k⟩
theorem EntsAt.km (hT : CT ≠ C) (hP : CP ≠ C) (h : EntsAt K CT CP H ms es) (k : Km C T H H') : EntsAt K CT CP H' ms es := ⟨h.1, fun j s q => let ⟨v, a, b⟩ := h.2 j s q; ⟨v, a, b.km hT hP k⟩⟩
theorem EntsAt.nil : EntsAt K CT CP H [] [] := ⟨rfl, fun _ _ h => by simp at h⟩
theorem EntsAt.snoc (h : EntsAt K CT CP H ms es) (g : EntAt K CT CP H v en) : EntsAt K CT CP H (ms ++ [v]) (es ++ [en]) := by
  refine ⟨by simp [h.1], fun j s hj => ?_⟩
  rcases Nat.lt_or_ge j es.length with z | z
  · rw [List.getElem?_append_left z] at hj
    obtain ⟨v', a, b⟩ := h.2 j s hj
    exact ⟨v', by rw [List.getElem?_append_left (by rw [h.1]; exact z)]; exact a, b⟩
  · have e : j = es.length := by
      have := (List.getElem?_eq_some_iff.mp hj).1
      rw [List.length_append, List.length_singleton] at this; omega
    subst e
    rw [List.getElem?_append_right (Nat.le_refl _), Nat.sub_self] at hj
    cases hj
    exact ⟨v, by rw [← h.1, List.getElem?_append_right (Nat.le_refl _), Nat.sub_self]; rfl, g⟩
theorem EdAtI.same (h : EdAtI K CT CP CE H e i) (k : Same H H') : EdAtI K CT CP CE H' e i := by
  refine ⟨k _ _ h.ins, h.tx.kp (.same k), (Same.tup k h.dn), ⟨h.de.1, fun j s q => ?_⟩, (Same.tup k h.un), ⟨h.ue.1, fun j s q => ?_⟩⟩
  · obtain ⟨v, a, t, o, b, c, ev, z, ⟨oa, h0, h1⟩, h2, h3⟩ := h.de.2 j s q
    exact ⟨v, a, t, o, b, c, ev, (Same.tup k z), ⟨oa, h0, (Same.tup k h1)⟩, h2.kp (.same k), h3.kp (.same k)⟩
  · obtain ⟨v, a, t, o, b, c, ev, z, ⟨oa, h0, h1⟩, h2, h3⟩ := h.ue.2 j s q
    exact ⟨v, a, t, o, b, c, ev, (Same.tup k z), ⟨oa, h0, (Same.tup k h1)⟩, h2.kp (.same k), h3.kp (.same k)⟩
theorem EdAt.same (h : EdAt K CT CP CE H e ss ds us) (k : Same H H') : EdAt K CT CP CE H' e ss ds us := let ⟨i, a, b⟩ := h; ⟨i, a.same k, b⟩
/-- another editor changes -/
theorem EdAtI.km (hT : CT ≠ CE) (hP : CP ≠ CE) (h : EdAtI K CT CP CE H e i) (k : Km CE T H H') (hi : H' e = H e) : EdAtI K CT CP CE H' e i :=
  ⟨hi.trans h.ins, h.tx.km hT hP k, k.tup h.dn, h.de.km hT hP k, k.tup h.un, h.ue.km hT hP k⟩
theorem EdAt.km (hT : CT ≠ CE) (hP : CP ≠ CE) (h : EdAt K CT CP CE H e ss ds us) (k : Km CE T H H') (hi : H' e = H e) : EdAt K CT CP CE H' e ss ds us := let ⟨i, a, b⟩ := h; ⟨i, a.km hT hP k hi, b⟩
theorem EdAt.kl (hT : CT ≠ CE) (hP : CP ≠ CE) (h : EdAt K CT CP CE H e ss ds us) (k : Kl T H H') : EdAt K CT CP CE H' e ss ds us := by
  obtain ⟨i, a, b⟩ := h
  exact ⟨i, a.km hT hP (.kl k) ((k.keep _ _ nr_ins (fun _ z => nomatch z) a.ins).trans a.ins.symm), b⟩
theorem EdAt.kp (hT : CT ≠ CE) (hP : CP ≠ CE) (h : EdAt K CT CP CE H e ss ds us) (k : Kp H H') : EdAt K CT CP CE H' e ss ds us := h.kl (T := []) hT hP (.kp k)
theorem EdAt.but (hT : CT ≠ CE) (hP : CP ≠ CE) (h : EdAt K CT CP CE H e ss ds us) (k : But x H H') (hx : H x = some (.ins C (i.dx) (edF (.ref i.p) (.ref i.d) (.ref i.u) i.kp i.kd i.ku))) (hC : C = CE) (ne : e ≠ x) : EdAt K CT CP CE H' e ss ds us := by
  subst hC
  obtain ⟨j, a, b⟩ := h
  exact ⟨j, a.km hT hP (Km.but (T := []) k hx) ((k _ _ ne a.ins).trans a.ins.symm), b⟩
theorem EdAt.insA (h : EdAt K CT CP CE H e ss ds us) : InsA H e CE := let ⟨_, a, _⟩ := h; ⟨_, _, a.ins⟩
theorem EdAt.insM {m : Str} (h : EdAt K CT CP CE H e ss ds us) (hm : m ≠ "present" ∧ m ≠ "done" ∧ m ≠ "undone" ∧ m ≠ "is_open" ∧ m ≠ "kept_present" ∧ m ≠ "kept_done" ∧ m ≠ "kept_undone" := by decide +kernel) : InsM H e CE m := let ⟨_, a, _⟩ := h; ⟨_, _, a.ins, edF_no hm⟩
end
/-- x is no sequence, its text not too long -/
def Sml (x : V) : Prop := NoSeq x ∧ ∀ z, x = .str z → z.length ≤ sizeLine
section
variable (K : PySem.W.Frag) (CIS CTL CIP CIL CT CP CE : Addr)
/-- a step, its values xs, is added to the text of the editor e -/
def AddOut (H : Hp) (e : Addr) (ss : List Stp) (ds : List Ent) (xs : List V) (Q : VK) (E : XK) : Prop :=
  (∃ s, xs = stV s ∧ okStep (sz ss) s ∧ ss.length < 30 ∧ sz ss + len1 s ≤ 1000000000000000000 ∧ ∀ H', But e H H' → EdAt K CT CP CE H' e (ss ++ [s]) (ds ++ [⟨.st s, ss, ss ++ [s]⟩]) [] → Q (.int (sz (ss ++ [s]) : Nat)) H') ∨
  ((ss.length = 30 ∨ isSt (sz ss) xs = false) ∧ ∀ d H', Same H H' → H' d = some (.xd [("index", .int (ss.length : Nat))]) → E (.ref CIS) (some d) H') ∨
  (∃ s, xs = stV s ∧ okStep (sz ss) s ∧ ss.length < 30 ∧ 1000000000000000000 < sz ss + len1 s ∧ ∀ H', Same H H' → E (.ref CTL) none H')
def RetOut (H : Hp) (e : Addr) (ss : List Stp) (ds : List Ent) (p l : V) (Q : VK) (E : XK) : Prop :=
  (∃ i c : Nat, p = .int (i : Nat) ∧ l = .str ⟨#[c]⟩ ∧ i < sz ss ∧ 97 ≤ c ∧ c ≤ 122 ∧ ∀ H', But e H H' → EdAt K CT CP CE H' e (aft ss (.re i c)) (ds ++ [⟨.re i c, ss, aft ss (.re i c)⟩]) [] → Q (.int (opN ss (.re i c) : Nat)) H') ∨
  (isInt 0 ((sz ss : Int) - 1) p = false ∧ ∀ H', Same H H' → E (.ref CIP) none H') ∨
  (isInt 0 ((sz ss : Int) - 1) p = true ∧ isLet l = false ∧ ∀ H', Same H H' → E (.ref CIL) none H')
def sp_Editor_init : Sp := fun vs H Q _ => ∃ x dx m rs ss, vs = [.ref x, .ref m] ∧ H x = some (.ins CE dx []) ∧ SqT K H m rs ∧ StepsAt K H rs ss ∧ okFrom 0 ss ∧ ss.length ≤ 30 ∧ ∀ H', But x H H' → EdAt K CT CP CE H' x ss [] [] → Q .non H'
def sp_Editor_enter : Sp := fun vs H Q _ => ∃ e v a ss ds us o s', vs = [.ref e, v, .ref a] ∧ EdAt K CT CP CE H e ss ds us ∧ OpAt K H v o ∧ TX K CT CP H a s' ∧ ds.length < 1000000 ∧ ∀ H', But e H H' → EdAt K CT CP CE H' e s' (ds ++ [⟨o, ss, s'⟩]) [] → Q .non H'
def sp_Editor_add_stepR : Sp := fun vs H Q E => ∃ e a xs ss ds us, vs = [.ref e, .ref a] ∧ EdAt K CT CP CE H e ss ds us ∧ SqT K H a xs ∧ (∀ x ∈ xs, Sml x) ∧ ds.length < 1000000 ∧ AddOut K CIS CTL CT CP CE H e ss ds xs Q E
def sp_Editor_writeR : Sp := fun vs H Q E => ∃ e v ss ds us, vs = [.ref e, v] ∧ EdAt K CT CP CE H e ss ds us ∧ Sml v ∧ ds.length < 1000000 ∧ AddOut K CIS CTL CT CP CE H e ss ds [.str "write", v] Q E
def sp_Editor_pasteR : Sp := fun vs H Q E => ∃ e f l t ss ds us, vs = [.ref e, f, l, t] ∧ EdAt K CT CP CE H e ss ds us ∧ Sml f ∧ Sml l ∧ Sml t ∧ ds.length < 1000000 ∧ AddOut K CIS CTL CT CP CE H e ss ds [.str "paste", f, l, t] Q E
def sp_Editor_retypeR : Sp := fun vs H Q E => ∃ e p l ss ds us, vs = [.ref e, p, l] ∧ EdAt K CT CP CE H e ss ds us ∧ Sml p ∧ Sml l ∧ ds.length < 1000000 ∧ RetOut K CIP CIL CT CP CE H e ss ds p l Q E
def isOp : List V → Bool
  | [.str z, _] => decide (z = "write")
  | [.str z, _, _, _] => decide (z = "paste")
  | [.str z, _, _] => decide (z = "retype")
  | _ => false
/-- an operation as a value: its form is looked at -/
def OpForm (xs : List V) : Prop := xs = [] ∨ ∃ z r, xs = .str z :: r ∧ (z = "write" ∨ z = "paste" ∨ z = "retype" ∨ z = "undo")
def sp_is_operation (K : PySem.W.Frag) : Sp := fun vs H Q _ => ∃ v, vs = [v] ∧ ((NoSeq v ∧ ∀ H', Same H H' → Q (.bl false) H') ∨ (∃ a xs, v = .ref a ∧ SqL K H a xs ∧ ∀ H', Same H H' → Q (.bl false) H') ∨
  ∃ a xs, v = .ref a ∧ SqT K H a xs ∧ (∀ x ∈ xs, Sml x) ∧ OpForm xs ∧ ∀ H', Same H H' → Q (.bl (isOp xs)) H')
/-- operations, one after another -/
def runB : List Stp → List Op → List Stp
  | ss, [] => ss
  | ss, o :: r => runB (aft ss o) r
def entsB : List Stp → List Op → List Ent
  | _, [] => []
  | ss, o :: r => ⟨o, ss, aft ss o⟩ :: entsB (aft ss o) r
def okB : List Stp → List Op → Prop
  | _, [] => True
  | ss, o :: r => okOp ss o ∧ okB (aft ss o) r
def OpsAt (K : PySem.W.Frag) (H : Hp) (ms : List V) (os : List Op) : Prop := ms.length = os.length ∧ ∀ (j : Nat) o, os[j]? = some o → ∃ v, ms[j]? = some v ∧ OpAt K H v o
def sp_Editor_history : Sp := fun vs H Q _ => ∃ e ss ds us, vs = [.ref e] ∧ EdAt K CT CP CE H e ss ds us ∧ ds.length ≤ 10000 ∧ ∀ H' l ms, Same H H' → H l = none → H' l = some (.lst ms) → OpsAt K H' ms (ds.map (·.o)) → Q (.ref l) H'
/-- an operation of valid form is executed -/
def ExOut (H : Hp) (e : Addr) (ss : List Stp) (ds : List Ent) (xs : List V) (Q : VK) (E : XK) : Prop :=
  match xs with
  | [_, p, l] => RetOut K CIP CIL CT CP CE H e ss ds p l Q E
  | _ => AddOut K CIS CTL CT CP CE H e ss ds xs Q E
def sp_Editor_executeR : Sp := fun vs H Q E => ∃ e a xs ss ds us, vs = [.ref e, .ref a] ∧ EdAt K CT CP CE H e ss ds us ∧ SqT K H a xs ∧ (∀ x ∈ xs, Sml x) ∧ isOp xs = true ∧ ds.length < 1000000 ∧ ExOut K CIS CTL CIP CIL CT CP CE H e ss ds xs Q E
def sp_Editor_present_text : Sp := fun vs H Q _ => ∃ e ss ds us, vs = [.ref e] ∧ EdAt K CT CP CE H e ss ds us ∧ ∀ a, TX K CT CP H a ss → Q (.ref a) H
end
end L2.Px
set_option Elab.async false
set_option linter.all false
set_option maxRecDepth 100000
set_option maxHeartbeats 1000000
namespace L2.Px
open PySem PySem.Spec PyProof.Rows StX TL ClX LamX
end L2.Px
namespace L2.Px
open PySem PySem.Spec PyProof.Rows StX TL ClX LamX
end L2.Px
namespace L2.Px
open PySem PySem.Spec PyProof.Rows StX TL ClX LamX
end L2.Px
namespace L2.Px
open PySem PySem.Spec PyProof.Rows StX TL ClX LamX
end L2.Px
set_option Elab.async false
set_option linter.all false
set_option maxRecDepth 100000
set_option maxHeartbeats 1000000
namespace L2.Px
open PySem PySem.Spec PyProof.Rows StX TL ClX LamX
section
variable {K : PySem.W.Frag} {H H' : Hp} {Q : VK} {a p : Addr} {ss : List Stp} {ms xs : List V} {n : Int} {v : V}
theorem TS'.len (h : TS' K H a ss) (q : Q (.int (ss.length : Nat)) H) : rLenA K [.ref a] H Q := by
  obtain ⟨ms, h1, h2⟩ := h
  exact rd_len_tup h1 (by rw [h2.1]; exact q)
/-- a list of values that are no steps for n places -/
def BadL (K : PySem.W.Frag) (H : Hp) (n : Int) (bs : List V) : Prop := ∀ b ∈ bs, StVal K H n b false
theorem BadL.mono {bs : List V} (h : BadL K H n bs) (e : Same H H') : BadL K H' n bs := fun b hb => (h b hb).mono e
end
end L2.Px
set_option Elab.async false
set_option linter.all false
set_option maxRecDepth 100000
set_option maxHeartbeats 1000000
namespace L2.Px
open PySem PySem.Spec PyProof.Rows StX ClX LamX
section
variable {K : PySem.W.Frag} {h : Heap} {mg : Str → Option Value} {x qual : Str} {st : Stmt} {ps fs : List Str} {C D CT f : Addr}
theorem defI_mk (a : PySem.W.findIn K (.ref C) "__init__" = some (some (.ref f))) (t : PySem.W.typeIn K (.ref f) = some (.type "function")) (l : AtF K "__init__" qual st f) (k : PySem.W.keepIn K (.ref f) = true) (b : BF "__init__" qual st ps) : DefI K C qual st ps := by
  obtain ⟨fd, F⟩ := l.fun k
  exact ⟨f, fd, F, a, t, F.binds b⟩
theorem oex_mk {nm q : Str} {N : Addr} {bs bm : List Value} {sn : List Str} {sub : List Value} {ab : Bool} {col : Option Bool} {dd : Option Addr} {k0 k1 k2 k3 k5 : Option Value}
    (l : K.lookup C = some (excClassObj nm q C N bs bm true sn sub ab col dd k0 k1 k2 k3 k5 "ValueError.__new__")) (r : PySem.HandSPX.refsVE bm = true) (sa : PySem.W.findIn K (.ref C) "__setattr__" = some (some (.builtin "object.__setattr__")))
    (e : PySem.W.subIn K (.ref C) (.type "BaseException") = some true) (t : PySem.W.typeIn K (.ref C) = some (.type "type")) (k : PySem.W.keepIn K (.ref C) = true) : OexC K C := ⟨⟨nm, q, N, bs, bm, sn, sub, ab, col, dd, k0, k1, k2, k3, k5, l, r⟩, sa, e, t, k⟩
theorem xf_mk (a : PySem.W.findIn K (.ref C) "__getattribute__" = some (some (.builtin "BaseException.__getattribute__"))) (b : PySem.W.findIn K (.ref C) "__getattr__" = some none) (c : PySem.W.subIn K (.ref C) (.type "BaseException") = some true) (d : PySem.W.hasDictIn K C = true) : XfC K C := ⟨a, b, c, d⟩
theorem no1 {f : Str} (a : PySem.W.findIn K (.ref C) f = some none) : ∀ g ∈ [f], PySem.W.findIn K (.ref C) g = some none := fun g hg => by
  rw [List.mem_singleton] at hg; rw [hg]; exact a
end
end L2.Px
set_option Elab.async false
set_option linter.all false
set_option maxRecDepth 100000
set_option maxHeartbeats 1000000
namespace L2.Px
open PySem PySem.Spec PyProof.Rows StX TL ClX LamX
/-- v, w are no range of a text -/
def NoRng (ss : List Stp) (v w : V) : Prop := isInt 0 (sz ss : Nat) v = false ∨ ∃ i : Int, v = .int i ∧ isInt 0 (sz ss : Nat) v = true ∧ isInt (i - 1) ((sz ss : Nat) - 1) w = false
end L2.Px
set_option Elab.async false
set_option linter.all false
set_option maxRecDepth 100000
set_option maxHeartbeats 1000000
namespace L2.Px
open PySem PySem.Spec PyProof.Rows StX TL ClX LamX
section
variable {P : Program} {w : World} {K : PySem.W.Frag} {mg : Str → Option Value} {base : Heap} {k : Nat} {x : Str} {st : Stmt} {ps : List Str} {dvs : List V} {sp : Sp}
theorem DefGF.okX {N : List Str} (D : DefGF K mg x st ps dvs) (S : FnScope N ps (defScope st)) (len : ∀ vs H Q E, sp vs H Q E → vs.length = ps.length)
    (hbody : ∀ (f : Addr) (cdv : Value) (A : Around) (outer : List Env) (s : Shared) (H : Hp) (vs : List V) (Q : VK) (E : XK), Room k (A.deeper (envOfC x (defScope st) s.heap.objs.size f cdv)) → sp vs H Q E →
      ∃ t, PSs (cxOf (L2.CX P w) P w K mg base N x (defScope st) f cdv A outer s H E) (defBody st) t ∧ t { nx := fun _ H' => Q .non H', rt := Q } (start N vs) H) : GOk P w K mg base (L2.CX P w) (k + 1) x (fun vs => sp (vs ++ dvs)) := by
  obtain ⟨f, fd, F, a, ⟨ds, hd, b⟩, b0⟩ := D
  exact ⟨f, FnOk.toR1 (F.ok (CX := L2.CX P w) S len fun cdv A outer s H vs Q E hr h => hbody f cdv A outer s H vs Q E hr h) b hd, a, F.kp⟩
end
/-- v is no change of a text of n keys -/
def isCh (n : Int) : List V → Bool
  | [x, y] => isInt 0 (n - 1) x && isLet y
  | _ => false
def BadCh (K : PySem.W.Frag) (H : Hp) (n : Int) (v : V) : Prop := NoSeq v ∨ ∃ a xs, v = .ref a ∧ (∀ x ∈ xs, NoSeq x ∧ ∀ z, x = .str z → z.length ≤ sizeLine) ∧ ((SqT K H a xs ∧ isCh n xs = false) ∨ SqL K H a xs)
section
variable {K : PySem.W.Frag} {H H' : Hp} {n : Int} {v : V}
theorem BadCh.mono (h : BadCh K H n v) (e : Same H H') : BadCh K H' n v := by
  rcases h with h | ⟨a, xs, ev, hx, h | h⟩
  · exact .inl h
  · exact .inr ⟨a, xs, ev, hx, .inl ⟨Same.tup e h.1, h.2⟩⟩
  · exact .inr ⟨a, xs, ev, hx, .inr (e.seq h)⟩
end
/-- alike, to a depth; None too -/
def AlX (K : PySem.W.Frag) (H : Hp) : Nat → V → V → Prop
  | 0, _, _ => False
  | n + 1, v, w => (∃ i, v = .int i ∧ w = .int i) ∨ (∃ x, v = .str x ∧ w = .str x ∧ x.length ≤ sizeLine) ∨ (v = .non ∧ w = .non) ∨ ∃ a b xs ys, v = .ref a ∧ w = .ref b ∧ (SqT K H a xs ∧ SqT K H b ys ∨ SqL K H a xs ∧ SqL K H b ys) ∧ xs.length = ys.length ∧ xs.length ≤ sizeLine ∧ ∀ (i : Nat) x y, xs[i]? = some x → ys[i]? = some y → AlX K H n x y
theorem AlX.mono {K : PySem.W.Frag} {H H' : Hp} (e : Same H H') : ∀ {n : Nat} {v w : V}, AlX K H n v w → AlX K H' n v w
  | 0, _, _, h => h.elim
  | n + 1, _, _, h => by
    rcases h with h | h | h | ⟨a, b, xs, ys, h1, h2, h3, h4, h5, h6⟩
    · exact .inl h
    · exact .inr (.inl h)
    · exact .inr (.inr (.inl h))
    · refine .inr (.inr (.inr ⟨a, b, xs, ys, h1, h2, ?_, h4, h5, fun i x y p q => AlX.mono e (h6 i x y p q)⟩))
      rcases h3 with ⟨p, q⟩ | ⟨p, q⟩
      · exact .inl ⟨Same.tup e p, Same.tup e q⟩
      · exact .inr ⟨e.seq p, e.seq q⟩
end L2.Px
namespace L2.Px
open PySem PySem.Spec PyProof.Rows StX TL ClX LamX
end L2.Px
namespace L2.Px
open PySem PySem.Spec PyProof.Rows StX TL ClX LamX
end L2.Px
namespace L2.Px
open PySem PySem.Spec PyProof.Rows StX TL ClX LamX
end L2.Px
namespace L2.Px
open PySem PySem.Spec PyProof.Rows StX TL ClX LamX
end L2.Px
namespace L2.Px
open PySem PySem.Spec PyProof.Rows StX TL ClX LamX
theorem ChAt.snoc {K : PySem.W.Frag} {H : Hp} {F p : Addr} {cs : List (Nat × Nat)} {n k c : Nat} {xs : List V} (h : ChAt K H F cs n) (hF : H F = some (.lst xs)) (c1 : k < n) (c2 : 97 ≤ c ∧ c ≤ 122) (hp : H p = some (.tup [.int (k : Nat), .str ⟨#[c]⟩])) :
    ChAt K (upd H F (.lst (xs ++ [.ref p]))) F (cs ++ [(k, c)]) n := by
  obtain ⟨xs', e, h1, h2⟩ := h
  rw [hF] at e
  cases e
  refine ⟨xs ++ [.ref p], upd_same, by simp [h1], fun i d hd => ?_⟩
  by_cases hi : i < cs.length
  · rw [List.getElem?_append_left hi] at hd
    obtain ⟨a1, a2, a3, T, b1, b2⟩ := h2 i d hd
    exact ⟨a1, a2, a3, T, by rw [List.getElem?_append_left (by omega)]; exact b1, by rw [upd_ne (fun z => by subst z; rw [hF] at b2; cases b2)]; exact b2⟩
  · have hi' : i = cs.length := by
      have := (List.getElem?_eq_some_iff.mp hd).1
      rw [List.length_append, List.length_singleton] at this
      omega
    subst hi'
    rw [List.getElem?_append_right (Nat.le_refl _), Nat.sub_self] at hd
    cases hd
    exact ⟨c1, c2.1, c2.2, p, by rw [← h1, List.getElem?_append_right (Nat.le_refl _), Nat.sub_self]; rfl, by rw [upd_ne (fun z => by subst z; rw [hF] at hp; cases hp)]; exact hp⟩
end L2.Px
namespace L2.Px
open PySem PySem.Spec PyProof.Rows StX TL ClX LamX
end L2.Px
namespace L2.Px
open PySem PySem.Spec PyProof.Rows StX TL ClX LamX
end L2.Px
set_option Elab.async false
set_option linter.all false
set_option maxRecDepth 100000
set_option maxHeartbeats 1000000
namespace L2.Px
open PySem PySem.Spec PyProof.Rows StX TL ClX LamX
end L2.Px
namespace L2.Px
open PySem PySem.Spec PyProof.Rows StX TL ClX LamX
section
variable {K : PySem.W.Frag} {H H1 : Hp} {T : List (Addr × Str)} {l : Addr} {xs : List V} {o : HO}
theorem codeO_nl {c : Addr} {q : Str} : CodeO c q ≠ .lst xs := fun z => by
  unfold CodeO at z
  cases z
theorem upd_keep {b : Addr} {u : HO} (h : H l = some (.lst xs)) (e : H b = some u) (n : u ≠ .lst xs) : upd H l o b = some u := by
  rw [upd_ne fun z => by subst z; rw [h] at e; exact n (Option.some.inj e).symm]; exact e
theorem tabs_upd (t : Tabs T H) (h : H l = some (.lst xs)) : Tabs T (upd H l o) := fun p hp =>
  let ⟨ps, a, b, d⟩ := t p hp
  ⟨ps, upd_keep h a (fun z => nomatch z), b, fun pos cv hc => let ⟨c, x, y⟩ := d pos cv hc; ⟨c, x, upd_keep h y codeO_nl⟩⟩
theorem Kx.updL (x : Kx T H H1) (n : H l = none) (e : H1 l = some (.lst xs)) : Kx T H (upd H1 l o) :=
  ⟨fun b u hn h => by rw [upd_ne (ne_of_none h n)]; exact x.keep b u hn h, fun t => tabs_upd (x.tabs t) e⟩
theorem IsLam.updL {X : Cx} {k : Nat} {t : XK → TE} {f : Addr} (h : IsLam X k t f H) (e : H l = some (.lst xs)) : IsLam X k t f (upd H l o) := by
  obtain ⟨p, b, sc, dV, bs, c', h0, h1, h2, h3, h4⟩ := h
  refine ⟨p, b, sc, dV, bs, c', h0, upd_keep e h1 (fun z => by unfold lamOb at z; cases z), upd_keep e h2 codeO_nl, ?_, h4⟩
  rcases h3 with h3 | ⟨T, v, y, a1, a2, a3, a4⟩
  · exact .inl h3
  · exact .inr ⟨T, v, y, a1, a2, upd_keep e a3 (fun z => nomatch z), a4⟩
end
end L2.Px
namespace L2.Px
open PySem PySem.Spec PyProof.Rows StX TL ClX LamX
end L2.Px
set_option Elab.async false
set_option linter.all false
set_option maxRecDepth 100000
set_option maxHeartbeats 2000000
namespace L2.Px
open PySem PySem.Spec PyProof.Rows PySem.Calls PySem.W
section
variable {prog : Program} {w : World} {A : Around} {E : Value → Shared → Prop} {s : Shared}
theorem starT_any {l : Addr} {items : Array Value} {n i : Nat} {Q : List Value → Shared → Prop} (hl : IsTup s.heap l items) (hh : A.handled = none) (hi : i < n) (hn : n ≤ items.size + 1) (hz : items.size ≤ 16384)
    (h : ∀ (h2 : Heap) (tk : Nat), (∀ b o, s.heap.get? b = some o → h2.get? b = some o) →
      Q (items.toList.take i ++ [.ref h2.objs.size] ++ (items.toList.drop i).drop (items.size + 1 - n)) { s with heap := h2.push (seqObj "list" ((items.toList.drop i).take (items.size + 1 - n)).toArray 0), toks := tk }) : wpAny (model prog w) A (unpackItems (.ref l) n (some i)) Q E s := by
  have hlt : l ≠ s.heap.objs.size := by obtain ⟨o, ho, _⟩ := hl; exact Nat.ne_of_lt (Heap.lt_size ho)
  have hll : l < s.heap.objs.size := by obtain ⟨o, ho, _⟩ := hl; exact Heap.lt_size ho
  unfold unpackItems
  refine wpAny_bind ?_
  unfold notIterableAtAll
  refine wpAny_bind (wpAny_specialOf hl.typeIs slot_tuple_iter.lookup ?_)
  refine wpAny_pure ?_
  simp only [Bool.false_eq_true, if_false]
  refine wpAny_bind (wpAny_holding (iter_tuple hl ?_))
  refine wpAny_bind (wpAny_holding (draw_tuple hlt i 0 _ _ ⟨_, Heap.get?_push_size _ rfl, rfl, rfl⟩ (hl.push _) (by omega) fun h₁ hit₁ hs₁ => ?_))
  have hl₁ : IsTup h₁ l items := (hl.push _).extBut hs₁.extBut hlt
  rw [Nat.zero_add] at hit₁
  have hit₁' := hit₁
  obtain ⟨oi, hoi, _⟩ := hit₁'
  have hl₁' := hl₁
  obtain ⟨ol, hol, _⟩ := hl₁'
  rw [List.drop_zero]
  have hfl : (items.toList.take i).length = i := by rw [List.length_take, Array.length_toList]; omega
  rw [if_neg (show ¬ ((items.toList.take i).length < i) by rw [hfl]; omega)]
  refine wpAny_bind (wpAny_holding (kun_collect (s := { s with heap := h₁ }) (T := "tuple_iterator") (.inr (.inr (.inr rfl))) (Walks.tuple (A := A.in1) hh s.heap.objs.size l hlt items) (fun j u st => st.1.typeIs) (k := i) (by omega) ⟨hit₁, hl₁⟩ (Heap.lt_size hoi) (Heap.lt_size hol) (fun h₂ tk hk => ?_) (by rw [sizeLine_eq]; omega)))
  have hrl : (items.toList.drop i).length = items.size - i := by rw [List.length_drop, Array.length_toList]
  have hmid : (items.toList.drop i).length - (n - 1 - i) = items.size + 1 - n := by rw [hrl]; omega
  show wpAny _ _ (if (items.toList.drop i).length < n - 1 - i then _ else _) _ _ _
  rw [if_neg (by rw [hrl]; omega)]
  show wpAny _ _ (newList ((items.toList.drop i).take ((items.toList.drop i).length - (n - 1 - i))) >>= fun d => pure (items.toList.take i ++ [d] ++ (items.toList.drop i).drop ((items.toList.drop i).length - (n - 1 - i)))) _ _ _
  rw [hmid]
  have he : Heap.ExtBut s.heap.objs.size s.heap h₂ := fun b o hb e => hk b o hb (hs₁.extBut b o hb (Heap.get?_push_of_some _ e))
  have kp : ∀ b o, s.heap.get? b = some o → h₂.get? b = some o := fun b o e => he b o (Nat.ne_of_lt (Heap.lt_size e)) e
  exact wpAny_bind (wpAny_newList (wpAny_pure (h h₂ tk kp)) (by rw [List.length_take, hrl, sizeLine_eq]; omega))
end
theorem vals_take {xs : List V} {its : List Value} (r : Vals xs its) : ∀ n, Vals (xs.take n) (its.take n) := by
  induction r with
  | nil => intro n; rw [List.take_nil, List.take_nil]; exact .nil
  | cons h _ ih => intro n; cases n with
    | zero => exact .nil
    | succ n => exact .cons h (ih n)
theorem vals_drop {xs : List V} {its : List Value} (r : Vals xs its) : ∀ n, Vals (xs.drop n) (its.drop n) := by
  induction r with
  | nil => intro n; rw [List.drop_nil, List.drop_nil]; exact .nil
  | cons h r ih => intro n; cases n with
    | zero => exact .cons h r
    | succ n => exact ih n
theorem vals_app {xs ys : List V} {its jts : List Value} (r : Vals xs its) (q : Vals ys jts) : Vals (xs ++ ys) (its ++ jts) := by
  induction r with
  | nil => exact q
  | cons h _ ih => exact .cons h ih
/-- n targets, the one at i with a star, of a tuple -/
def gStar (K : PySem.W.Frag) (i n : Nat) (t : TGs) : TG := fun v σ H R => ∃ a xs, v = .ref a ∧ SqT K H a xs ∧ n ≤ xs.length + 1 ∧ xs.length ≤ 16384 ∧ ∀ D, H D = none →
  t (xs.take i ++ [.ref D] ++ (xs.drop i).drop (xs.length + 1 - n)) σ (upd H D (.lst ((xs.drop i).take (xs.length + 1 - n)))) R
section
variable {X : Cx} {K : PySem.W.Frag}
theorem pgs_star {e : Expr} {es : List Expr} {p : Pos} {t : TG} {u : TGs} (h1 : PG X e t) (h2 : PGs X es u) : PGs X (.Starred e p :: es) (gCons t u) := by
  refine ⟨fun pins s σ H vs us Q I r h => ?_⟩
  obtain ⟨v, vr, e1, h⟩ := h
  subst e1
  cases r with
  | cons r rr =>
    show wpAny _ _ (assignInOrder (assign e X.env :: (assignEach es X.env).map (·.2)) _) _ _ _
    refine assignInOrder_cons (thn (h1.run pins s σ H _ _ _ I r h) fun _ s1 ⟨σ1, H1, I1, q1⟩ => ?_)
    exact h2.run pins s1 σ1 H1 _ _ Q I1 rr q1
theorem pg_star {es : List Expr} {k i n : Nat} {pos : Pos} {t : TGs} (hk : X.K = K) (hc : X.calm = true) (h : PGs X es t)
    (hn : (assignEach es X.env).length = n := by rfl) (hst : (assignEach es X.env).findIdx? (·.1) = some i := by rfl) (hi : i < n := by decide) : PG X (.Tuple es k pos) (gStar K i n t) := by
  subst hk
  refine ⟨fun pins s σ H v u Q I r hw => ?_⟩
  obtain ⟨a, xs, e1, hq, hl, hz, hw⟩ := hw
  subst e1
  cases r
  obtain ⟨its, rv, ht, hz'⟩ := I.tuple hq
  have le : its.length = xs.length := rv.length.symm
  rw [assign_Tuple]
  refine wpAny_bind (wpAny_standAt ?_)
  unfold unpack
  rw [hn, hst]
  refine wpAny_bind (wpAny_holding (starT_any ht (I.ok.hd hc) hi (by simpa [le] using hl) (by simpa [le] using hz) fun h2 tk kp => ?_))
  have I2 : Inv X pins σ H { s with heap := h2, toks := tk } := I.kept kp
  have nD : H h2.objs.size = none := I2.hok.fresh (Nat.le_refl _)
  have e : (its.toArray.size + 1 - n) = xs.length + 1 - n := by simp [le]
  rw [e]
  have I3 : Inv X pins σ (upd H h2.objs.size (.lst ((xs.drop i).take (xs.length + 1 - n)))) { s with heap := h2.push (seqObj "list" ((its.drop i).take (xs.length + 1 - n)).toArray 0), toks := tk } :=
    I2.laid (fun b o q => Heap.get?_push_of_some _ q) (Nat.le_refl _) ⟨by rw [List.length_take, List.length_drop]; rw [sizeLine_eq]; omega, _, 0, vals_take (vals_drop rv i) _, Heap.get?_push_size _ rfl⟩
  exact h.run pins _ σ _ _ _ Q I3 (vals_app (vals_app (vals_take rv i) (.cons (show RelV (.ref h2.objs.size) (.ref h2.objs.size) from rfl) .nil)) (vals_drop (vals_drop rv i) _)) (hw _ nD)
end
end L2.Px
set_option Elab.async false
set_option linter.all false
set_option maxRecDepth 100000
set_option maxHeartbeats 2000000
namespace L2.Px
open PySem PySem.Spec PyProof.Rows StX ClX
/-- the promise, nothing being raised -/
def nox (sp : Sp) : Sp := fun vs H Q _ => sp vs H Q NoX
section
variable {P : Program} {w : World} {K : PySem.W.Frag} {mg : Str → Option Value} {base : Heap} {CX : CXT} {k i j : Nat} {f C : Addr} {sp sp' : Sp} {x m : Str} {R : Addr → Prop}
theorem fnR_down (F : FnR P w K mg base (L2.CX P w) k f sp) : FnR P w K mg base CX0 k f (nox sp) := fun A outer s H us vs Q E hr e0 r h =>
  codeAny_mono (F A outer s H us vs Q NoX hr e0 r h) fun r s' hq => match r, hq with
    | .error e, ⟨_, _, _, _, _, _, _, _, _, _, _, _, q⟩ => q.elim
    | .ok (.ret u), hq => hq
    | .ok .next, hq => hq
    | .ok .brk, hq => hq
    | .ok .cont, hq => hq
theorem GOk.down (G : GOk P w K mg base (L2.CX P w) k x sp) : GOk P w K mg base CX0 k x (nox sp) := let ⟨f, F, a⟩ := G; ⟨f, fnR_down F, a⟩
theorem MOk.down (G : MOk P w K mg base (L2.CX P w) k C m sp) : MOk P w K mg base CX0 k C m (nox sp) := let ⟨f, F, a⟩ := G; ⟨f, fnR_down F, a⟩
theorem KOk.down (G : KOk P w K mg base (L2.CX P w) k C sp) : KOk P w K mg base CX0 k C (nox sp) := let ⟨f, F, a⟩ := G; ⟨f, fnR_down F, a⟩
theorem COk.down (G : COk P w K mg base (L2.CX P w) k C m sp) : COk P w K mg base CX0 k C m (nox sp) := let ⟨mc, p, f, F, a⟩ := G; ⟨mc, p, f, fnR_down F, a⟩
theorem XOk.down (G : XOk P w K mg base (L2.CX P w) k R sp) : XOk P w K mg base CX0 k R (nox sp) := let ⟨f, F, a⟩ := G; ⟨f, fnR_down F, a⟩
theorem KOk.mono (G : KOk P w K mg base CX j C sp) (h : j ≤ k) : KOk P w K mg base CX k C sp := let ⟨f, F, a⟩ := G; ⟨f, F.mono h, a⟩
theorem KOk.or (F : KOk P w K mg base CX0 i C sp) (G : KOk P w K mg base CX j C sp') (hi : i ≤ k) (hj : j ≤ k) : KOk P w K mg base CX k C (fun vs H Q E => sp vs H Q E ∨ sp' vs H Q E) := by
  obtain ⟨f, a1, a2⟩ := F.mono hi
  obtain ⟨g, b1, b2⟩ := G.mono hj
  have e := a2.init.symm.trans b2.init
  simp only [Option.some.injEq, Value.ref.injEq] at e
  subst e
  exact ⟨f, fnR_or (fnR_up a1) b1, a2⟩
theorem XOk.up (F : XOk P w K mg base CX0 k R sp) : XOk P w K mg base CX k R sp := let ⟨f, a, b⟩ := F; ⟨f, fnR_up a, b⟩
theorem OOk.or (F : OOk P w K mg base CX0 i C sp) (G : OOk P w K mg base CX j C sp') (hi : i ≤ k) (hj : j ≤ k) : OOk P w K mg base CX k C (fun vs H Q E => sp vs H Q E ∨ sp' vs H Q E) := by
  obtain ⟨f, a1, a2⟩ := F
  obtain ⟨g, b1, b2⟩ := G
  have e := a2.at_.symm.trans b2.at_
  simp only [Option.some.injEq, Value.ref.injEq] at e
  subst e
  exact ⟨f, fnR_or (fnR_up (a1.mono hi)) (b1.mono hj), a2⟩
end
def DefB (K : PySem.W.Frag) (C : Addr) (m qual : Str) (st : Stmt) (ps : List Str) : Prop := ∃ f fd, Fun K m qual st f fd ∧ BMeth K C m f ∧ Binds K fd ps []
def BOk (P : Program) (w : World) (K : PySem.W.Frag) (mg : Str → Option Value) (base : Heap) (CX : CXT) (k : Nat) (C : Addr) (m : Str) (sp : Sp) : Prop := ∃ f, FnR P w K mg base CX k f sp ∧ BMeth K C m f
/-- m(self, .., *v) -/
def DefBS (K : PySem.W.Frag) (C : Addr) (m qual : Str) (st : Stmt) (ps : List Str) (pv : Str) : Prop := ∃ f fd, Fun K m qual st f fd ∧ BMeth K C m f ∧
  ∀ us rest : List Value, us.length = ps.length → bindArgs fd ⟨us ++ rest, []⟩ = (newTuple rest >>= fun t => pure (ps.zip us ++ [(pv, t)]))
section
variable {P : Program} {w : World} {K : PySem.W.Frag} {mg : Str → Option Value} {base : Heap} {CX : CXT} {k : Nat} {C : Addr} {ps : List Str} {sp : Sp} {m qual : Str} {st : Stmt}
theorem BOk.mo (G : BOk P w K mg base CX k C m sp) : MOk P w K mg base CX k C m sp := let ⟨f, F, b⟩ := G; ⟨f, F, b.mt⟩
theorem BOk.down (G : BOk P w K mg base (L2.CX P w) k C m sp) : BOk P w K mg base CX0 k C m (nox sp) := let ⟨f, F, a⟩ := G; ⟨f, fnR_down F, a⟩
theorem DefB.ok {N : List Str} (D : DefB K C m qual st ps) (S : FnScope N ps (defScope st)) (len : ∀ vs H Q E, sp vs H Q E → vs.length = ps.length)
    (hbody : ∀ (f : Addr) (cdv : Value) (A : Around) (outer : List Env) (s : Shared) (H : Hp) (vs : List V) (Q : VK) (E : XK), Room k (A.deeper (envOfC qual (defScope st) s.heap.objs.size f cdv)) → sp vs H Q E →
      ∃ t, PSs (cxOf CX0 P w K mg base N qual (defScope st) f cdv A outer s H E).nox (defBody st) t ∧ t { nx := fun _ H' => Q .non H', rt := Q } (start N vs) H) : BOk P w K mg base CX0 (k + 1) C m sp := by
  obtain ⟨f, fd, F, a, b⟩ := D
  exact ⟨f, FnOk.toR (F.ok S len fun cdv A outer s H vs Q E hr h => hbody f cdv A outer s H vs Q E hr h) b, a⟩
theorem DefBS.ok {N : List Str} {pv : Str} (D : DefBS K C m qual st ps pv) (S : FnScope N (ps ++ [pv]) (defScope st))
    (hbody : ∀ (f : Addr) (cdv : Value) (A : Around) (outer : List Env) (s : Shared) (H : Hp) (vs : List V) (Q : VK) (E : XK), Room k (A.deeper (envOfC qual (defScope st) s.heap.objs.size f cdv)) → sp vs H Q E →
      ∃ t, PSs (cxOf CX0 P w K mg base N qual (defScope st) f cdv A outer s H E).nox (defBody st) t ∧ t { nx := fun _ H' => Q .non H', rt := Q } (start N vs) H) : BOk P w K mg base CX0 (k + 1) C m (spStar ps.length sp) := by
  obtain ⟨f, fd, F, M, hb⟩ := D
  obtain ⟨oc, od, kV, doc, pm, an, cdv, ct, osl, rfl, lk, hcd⟩ := F.ex
  exact ⟨f, fn_star (sp := sp) lk hcd S cxUp_none hb fun A outer s H vs Q E hr h => let ⟨t, a, b⟩ := hbody f cdv A outer s H vs Q E hr h; ⟨t, a.nox, b⟩, M⟩
theorem DefB.okX {N : List Str} (D : DefB K C m qual st ps) (S : FnScope N ps (defScope st)) (len : ∀ vs H Q E, sp vs H Q E → vs.length = ps.length)
    (hbody : ∀ (f : Addr) (cdv : Value) (A : Around) (outer : List Env) (s : Shared) (H : Hp) (vs : List V) (Q : VK) (E : XK), Room k (A.deeper (envOfC qual (defScope st) s.heap.objs.size f cdv)) → sp vs H Q E →
      ∃ t, PSs (cxOf (L2.CX P w) P w K mg base N qual (defScope st) f cdv A outer s H E) (defBody st) t ∧ t { nx := fun _ H' => Q .non H', rt := Q } (start N vs) H) : BOk P w K mg base (L2.CX P w) (k + 1) C m sp := by
  obtain ⟨f, fd, F, a, b⟩ := D
  exact ⟨f, FnOk.toR (F.okX S len fun cdv A outer s H vs Q E hr h => hbody f cdv A outer s H vs Q E hr h) b, a⟩
theorem DefBS.okX {N : List Str} {pv : Str} (D : DefBS K C m qual st ps pv) (S : FnScope N (ps ++ [pv]) (defScope st))
    (hbody : ∀ (f : Addr) (cdv : Value) (A : Around) (outer : List Env) (s : Shared) (H : Hp) (vs : List V) (Q : VK) (E : XK), Room k (A.deeper (envOfC qual (defScope st) s.heap.objs.size f cdv)) → sp vs H Q E →
      ∃ t, PSs (cxOf (L2.CX P w) P w K mg base N qual (defScope st) f cdv A outer s H E) (defBody st) t ∧ t { nx := fun _ H' => Q .non H', rt := Q } (start N vs) H) : BOk P w K mg base (L2.CX P w) (k + 1) C m (spStar ps.length sp) := by
  obtain ⟨f, fd, F, M, hb⟩ := D
  obtain ⟨oc, od, kV, doc, pm, an, cdv, ct, osl, rfl, lk, hcd⟩ := F.ex
  exact ⟨f, fn_star (sp := sp) lk hcd S cxUp hb fun A outer s H vs Q E hr h => hbody f cdv A outer s H vs Q E hr h, M⟩
end
section
variable {X : Cx} {CX : CXT} {k : Nat} {C : Addr} {sp : Sp} {E : XK} {m : Str} {e o : Expr} {es : List Expr} {ta te : TE} {t : TA} {p pos apos : Pos} {σ : St} {H : Hp} {Q : VK}
/-- o.m( *e) -/
def tMS (K : PySem.W.Frag) (C : Addr) (m : Str) (sp : Sp) (E : XK) (ta te : TE) : TE := fun σ H Q => ta σ H fun x H1 => ∃ a, x = .ref a ∧ InsM H1 a C m ∧
  ∀ H1', Same H1 H1' → te σ H1' fun y H2 => Same H1' H2 ∧ ∃ b vs, y = .ref b ∧ (SqT K H2 b vs ∨ SqL K H2 b vs) ∧ sp (.ref a :: vs) H2 Q E
theorem pe_mS {K : PySem.W.Frag} (hk : X.K = K) (he : PE X o ta) (c : Cls K C) (G : BOk X.prog X.w K X.mg X.base CX k C m sp) (hr : Room k X.A) (hx : Passes CX X E) (ha : PE X e te)
    (hbase : attributeBase o m X.env (eval o X.env) = eval o X.env := by rfl) : PE X (.Call (.Attribute o m apos) [.Starred e p] [] pos) (tMS K C m sp E ta te) := by
  subst hk
  obtain ⟨g, F, b⟩ := G
  refine ⟨fun pins s σ H Q I h => ?_⟩
  refine starcall_of hbase (thn (he.run pins s σ H _ I h) fun u s1 ⟨x, H1, I1, rx, a, ex, ⟨dx, fs, ea, l⟩, q⟩ => ?_)
  subst ex
  obtain rfl : u = Value.ref a := rx
  refine getbound_ok I1 ea c b l fun q1 s2 hq1 I2 => ?_
  refine PySem.W.ks_call (P := PySem.W.MethP X.K q1 g (.ref a)) rfl (PySem.W.keeps_M b.fi) (PySem.W.ks_lone ?_)
  refine thn (ha.run pins s2 σ _ _ I2 (q _ (Same.new (Same.refl _) hq1))) fun v s3 ⟨y, H2, I3, ry, S2, t, vs, ey, ht, hsp⟩ => ?_
  subst ey
  obtain rfl : v = Value.ref t := ry
  have hm : H2 q1 = some (.met g a) := S2 _ _ upd_same
  refine star_any I3 ht fun us s4 I4 rv => ⟨met_P I4 hm, ?_⟩
  exact wpAny_call (PySem.W.method_call (met_P I4 hm).1 (run_fnR (us := Value.ref a :: us) (vs := V.ref a :: vs) F hr hx I4 (.cons rfl rv) hsp))
theorem rd_mS {K : PySem.W.Frag} (h : ta σ H fun x H1 => ∃ a, x = .ref a ∧ InsM H1 a C m ∧ ∀ H1', Same H1 H1' → te σ H1' fun y H2 => Same H1' H2 ∧ ∃ b vs, y = .ref b ∧ (SqT K H2 b vs ∨ SqL K H2 b vs) ∧ sp (.ref a :: vs) H2 Q E) : tMS K C m sp E ta te σ H Q := h
end
section
variable {X : Cx} {CX : CXT} {k : Nat} {C : Addr} {sp : Sp} {E : XK} {f : Str} {e o : Expr} {es : List Expr} {ta : TE} {t : TA} {pos apos : Pos} {K : PySem.W.Frag}
def tOF (K : PySem.W.Frag) (f : Str) (C : Addr) (sp : Sp) (E : XK) (ta : TE) (t : TA) : TE := fun σ H Q => ta σ H fun x H1 => rFld K f x H1 fun y H1 => ∃ a, y = V.ref a ∧ t σ H1 fun vs H2 => InsA H2 a C ∧ sp (V.ref a :: vs) H2 Q E
theorem pe_oF {pl : Sem Bool} (hk : X.K = K) (hf : PE X o ta) (G : OOk X.prog X.w X.K X.mg X.base CX k C sp) (hr : Room k X.A) (hx : Passes CX X E) (ha : PA X (e :: es) t)
    (he : starEach (e :: es) X.env = (false, eval e X.env) :: starEach es X.env := by rfl) (hpl : (backTo pos (starEach es X.env)).any (·.1) = false := by rfl)
    (ht : eval (.Call (.Attribute o f apos) (e :: es) [] pos) X.env = (do
      let ov ← eval o X.env
      standAt apos.atName
      let (f, first) ← holding [ov] (getMethod ov f pl)
      callWith pos f first (backTo pos (starEach (e :: es) X.env)) (backToKw pos (keywordEach [] X.env))) := by rfl) : PE X (.Call (.Attribute o f apos) (e :: es) [] pos) (tOF K f C sp E ta t) := by
  subst hk
  obtain ⟨g, F, c⟩ := G
  refine ⟨fun pins s σ H Q I h => ?_⟩
  refine PySem.W.methodCall_KW (pl := pl) (thn (hf.run pins s σ H _ I h) fun u s1 ⟨x, H1, I1, rx, a, C', dx, fs, v, ex, ea, cc, nn, l, b, ev, q⟩ => ?_) ht
  subst ex ev
  obtain rfl : u = Value.ref a := rx
  refine getmeth_fld I1 ea cc nn l fun u2 s2 I2 r2 => ?_
  obtain rfl : u2 = Value.ref b := r2
  refine callO_with (thn (ha.run pos pins s2 σ H1 _ I2 q) fun us s3 ⟨vs, H2, I3, r, hi, q2⟩ => ?_) he hpl
  have hi' : StX.InsC X H2 b C := .inr hi
  obtain ⟨ox, od, J, hd⟩ := insC_at I3 hi'
  exact ⟨⟨C, ox, od, J, hd⟩, run_callO c F hr hx I3 hi' r q2⟩
theorem rd_oF {σ : St} {H : Hp} {Q : VK} (h : ta σ H fun x H1 => rFld K f x H1 fun y H1 => ∃ a, y = V.ref a ∧ t σ H1 fun vs H2 => InsA H2 a C ∧ sp (V.ref a :: vs) H2 Q E) : tOF K f C sp E ta t σ H Q := h
end
section
variable {X : Cx} {body : List Stmt} {f₀ : Stmt} {fs : List Stmt} {pos : Pos} {tb : WX → TS} {tf tfs : TS} {Wout : WX}
/-- try: body finally: suite, nothing is raised -/
def tFin0 (tb tf : TS) : TS := fun D σ H => tb { nx := fun σ1 H1 => tf D σ1 H1, rt := fun _ _ => False } σ H
theorem ps_fin0 {tb : TS} (hb : PSs X.nox body tb) (hfin : PSs X.nox (f₀ :: fs) tf) : PS X (.Try body [] [] (f₀ :: fs) pos) (tFin0 tb tf) := by
  refine ⟨fun pins s σ H D I h => ?_⟩
  refine wpAny_Try_finally (wpAny_mono (hb.run pins s σ H { nx := fun σ1 H1 => tf D σ1 H1, rt := fun _ _ => False } (I.wish _) h) (fun g s1 z => ?_) fun _ _ z => False.elim z)
  have z := z.unwish
  cases g with
  | ret u =>
    obtain ⟨_, _, _, _, _, q⟩ := z
    exact False.elim q
  | brk =>
    obtain ⟨_, _, _, q⟩ := z
    exact False.elim q
  | cont =>
    obtain ⟨_, _, _, q⟩ := z
    exact False.elim q
  | next =>
    obtain ⟨σ1, H1, J1, q1⟩ := z
    refine wpAny_execs_nil ?_
    refine wpAny_mono (hfin.run pins s1 σ1 H1 D (J1.wish _) q1) (fun g2 s2 q2 => ?_) fun _ _ e => False.elim e
    have q3 : SP X pins D g2 s2 := q2.unwish
    cases g2 <;> exact q3
theorem rd_fin0 {tb tf : TS} {nx ct bk : St → Hp → Prop} {rt : VK} {σ : St} {H : Hp} (h : tb { nx := fun σ1 H1 => tf ⟨nx, rt, bk, ct⟩ σ1 H1, rt := fun _ _ => False } σ H) : tFin0 tb tf ⟨nx, rt, bk, ct⟩ σ H := h
end
section
variable {X : Cx} {o : Expr} {to : TE} {f : Str} {pos : Pos} {σ : St} {H : Hp} {K : PySem.W.Frag}
def gFld (K : PySem.W.Frag) (f : Str) (to : TE) : TG := fun v σ H Q => to σ H fun x H2 => rSFld K f v x H2 (fun H3 => Q σ H3)
theorem pg_fld (hk : X.K = K) (ho : PE X o to) (ha : ∀ v, assign (.Attribute o f pos) X.env v = (do
      let ov ← holding [v] (eval o X.env)
      standAt pos.atName
      holding [v, ov] (setAttr ov f v)
      release [v, ov] []) := by intro _; rfl) : PG X (.Attribute o f pos) (gFld K f to) := by
  subst hk
  refine ⟨fun pins s σ H v u Q I r h => ?_⟩
  rw [ha]
  refine wpAny_bind (wpAny_holding (thn (ho.run pins s σ H _ I h) fun ov s1 ⟨x, H1, I1, r1, q1⟩ => ?_))
  obtain ⟨a, C, dx, fs, ex, ea, c, n, l, q⟩ := q1
  subst ex
  obtain rfl : ov = Value.ref a := r1
  refine wpAny_bind (wpAny_standAt (wpAny_bind (wpAny_holding (setattr_ok I1 ea c n l r fun s2 I2 => ?_))))
  exact wpAny_release ⟨σ, _, I2, q⟩
def rEqNil (K : PySem.W.Frag) : R2 := fun x y H Q => ∃ a b xs, x = .ref a ∧ y = .ref b ∧ SqT K H a xs ∧ SqT K H b [] ∧ Q (.bl (decide (xs = []))) H
theorem oEqNil (hk : X.K = K) (hu : X.A.units + 64 < cLine) : OpR X (compareOp .Eq) (rEqNil K) := by
  subst hk
  intro pins s σ H x y v u Q I rx ry h
  obtain ⟨a, b, xs, rfl, rfl, ha, hb, q⟩ := h
  obtain rfl : v = Value.ref a := rx
  obtain rfl : u = Value.ref b := ry
  obtain ⟨its, r1, t1, _⟩ := I.tuple ha
  obtain ⟨jts, r2, t2, _⟩ := I.tuple hb
  have e2 : jts = [] := by cases r2; rfl
  subst e2
  refine SeqAt.eq_tupleAt (items := its.toArray) (items2 := #[]) (e := fun _ => true) t1 t2 (by omega) (fun j h1 h2 => absurd h2 (by simp)) ?_
  refine ⟨.bl (decide (xs = [])), H, I, ?_, q⟩
  have hl := r1.length
  cases xs with
  | nil => cases r1; rfl
  | cons z zs => cases r1; rfl
end
structure LOwn (K : PySem.W.Frag) (C f : Addr) : Prop where
  at_ : PySem.W.findIn K (.ref C) "__len__" = some (some (.ref f))
  fn : PySem.W.isFn K (.ref f) = true
def rKG (K : PySem.W.Frag) (d : Addr) (y z : V) (H3 : Hp) (Q : VK) : Prop := ∃ s u, y = .str s ∧ PySem.W.nsIn K d s = some u ∧ ((u = none ∧ Q z H3) ∨ ∃ u0 v0, u = some u0 ∧ RelV v0 u0 ∧ Q v0 H3)
def tKGet2 (K : PySem.W.Frag) (w : World) (td ty tx : TE) : TE := fun σ H Q => td σ H fun x H1 => ∃ d es n, x = .ref d ∧ KDict K w d es n ∧ ty σ H1 fun y H2 => tx σ H2 fun z H3 => rKG K d y z H3 Q
theorem pe_kget2 {X : Cx} {o e f : Expr} {apos cpos : Pos} {td ty tx : TE} (ho : PE X o td) (he : PE X e ty) (hf : PE X f tx) (m : M2 X o "get" apos e f cpos) : PE X (.Call (.Attribute o "get" apos) [e, f] [] cpos) (tKGet2 X.K X.w td ty tx) := by
  refine ⟨fun pins s σ H Q I h => ?_⟩
  refine wpAny_Call_method m.base m.few m.line PySem.F.plainAttrs_dict PySem.F.slot_dict_get PySem.F.type_dict_get (thn (ho.run pins s σ H _ I h) fun u s1 ⟨x, H1, I1, rx, a, es, n, ex, D, q1⟩ => ?_)
  subst ex
  obtain rfl : u = Value.ref a := rx
  refine ⟨kd_type D I1, fun b hb => ?_, ?_⟩
  · cases hb
    exact ⟨_, I1.kIn _ _ D.at_, rfl⟩
  rw [m.trees]
  refine Calls.callWith_builtin rfl (Calls.evalArgs_plain (Calls.spliced_cons (thn (he.run pins s1 σ H1 _ I1 q1) fun iv s2 ⟨y, H2, I2, ry, q2⟩ =>
    Calls.spliced_cons (thn (hf.run pins s2 σ H2 _ I2 q2) fun fv s3 ⟨z, H3, I3, rz, sx, ux, ey, en, q3⟩ => Calls.spliced_nil ?_))))
  subst ey
  obtain ⟨t, rfl⟩ := ry
  refine call_meetsIn PySem.F.slot_dict_get (kd_type D I3) PySem.F.entry_dict_get (PySem.F.args_dict_get_3 _ _ _) (meets_dict_get_default (PySem.strKind X.prog X.w) a (PySem.strKind_is X.prog X.w sx t) D.low fv) ⟨_, PySem.W.mapOf_K (prog := X.prog) (w := X.w) I3.kIn D.at_ D.lit, ?_⟩
  rw [PySem.W.find_K D.at_ en]
  rcases q3 with ⟨rfl, q⟩ | ⟨u0, v0, rfl, rv, q⟩
  · exact ⟨z, H3, I3.tok _, rz, q⟩
  · exact ⟨v0, H3, I3.tok _, rv, q⟩
section
variable {K : PySem.W.Frag} {C f : Addr} {m qual pv : Str} {st : Stmt} {ps : List Str}
theorem defB_mk (r : BMeth K C m f) (l : AtF K m qual st f) (k : PySem.W.keepIn K (.ref f) = true) (b : BF m qual st ps) : DefB K C m qual st ps := by
  obtain ⟨fd, F⟩ := l.fun k
  exact ⟨f, fd, F, r, F.binds b⟩
theorem defBS_mk (r : BMeth K C m f) (l : AtF K m qual st f) (k : PySem.W.keepIn K (.ref f) = true) (b : BFS m qual st ps pv) : DefBS K C m qual st ps pv := by
  obtain ⟨oc, od, kV, dc, pm, an, cd, ct, sl, l, c⟩ := l
  exact ⟨f, _, fun_mk (st := st) l c k, r, fun us rest hl => b kV dc pm an cd ct us rest hl⟩
end
/-- {"write": 1, "paste": 3, "retype": 2} -/
structure KDt (K : PySem.W.Frag) (w : World) (d : Addr) : Prop where
  ex : ∃ es n, KDict K w d es n
  wr : ∃ t, PySem.W.nsIn K d "write" = some (some (.int 1 t))
  pa : ∃ t, PySem.W.nsIn K d "paste" = some (some (.int 3 t))
  re : ∃ t, PySem.W.nsIn K d "retype" = some (some (.int 2 t))
  un : PySem.W.nsIn K d "undo" = some none
section
variable {K : PySem.W.Frag} {CT CP CE C : Addr} {H H' H1 : Hp} {Q : VK} {E : XK} {a b d e x dx : Addr} {xs ys : List V} {z : Str} {σ : St} {td ty tx : TE} {w : World} {f : Str} {y v : V} {fs : List (Str × V)} {k : Hp → Prop}
theorem rd_eqT0 (ha : SqT K H a xs) (hb : SqT K H b []) (q : Q (.bl (decide (xs = []))) H) : rEqNil K (.ref a) (.ref b) H Q := ⟨a, b, xs, rfl, rfl, ha, hb, q⟩
theorem rd_kget (h : td σ H fun x H1 => ∃ d es n, x = .ref d ∧ KDict K w d es n ∧ ty σ H1 fun y H2 => tx σ H2 fun z H3 => rKG K d y z H3 Q) : tKGet2 K w td ty tx σ H Q := h
theorem rd_kgd (D : KDt K w d) (h : ty σ H fun y H2 => tx σ H2 fun z H3 => rKG K d y z H3 Q) :
    ∃ d' es n, V.ref d = .ref d' ∧ KDict K w d' es n ∧ ty σ H fun y H2 => tx σ H2 fun z H3 => rKG K d' y z H3 Q :=
  let ⟨es, n, e⟩ := D.ex
  ⟨d, es, n, rfl, e, h⟩
/-- how many arguments an operation of this name has; -1: there is none -/
def argN (z : Str) : Int := if z = "write" then 1 else if z = "paste" then 3 else if z = "retype" then 2 else -1
theorem rd_kgv (D : KDt K w d) (hz : z = "write" ∨ z = "paste" ∨ z = "retype" ∨ z = "undo") (q : Q (.int (argN z)) H) :
    rKG K d (.str z) (.int (-1)) H Q := by
  rcases hz with rfl | rfl | rfl | rfl
  · obtain ⟨t, e⟩ := D.wr
    exact ⟨_, _, rfl, e, .inr ⟨_, .int 1, rfl, ⟨t, rfl⟩, by rw [show argN "write" = 1 from by decide +kernel] at q; exact q⟩⟩
  · obtain ⟨t, e⟩ := D.pa
    exact ⟨_, _, rfl, e, .inr ⟨_, .int 3, rfl, ⟨t, rfl⟩, by rw [show argN "paste" = 3 from by decide +kernel] at q; exact q⟩⟩
  · obtain ⟨t, e⟩ := D.re
    exact ⟨_, _, rfl, e, .inr ⟨_, .int 2, rfl, ⟨t, rfl⟩, by rw [show argN "retype" = 2 from by decide +kernel] at q; exact q⟩⟩
  · exact ⟨_, _, rfl, D.un, .inl ⟨rfl, by rw [show argN "undo" = -1 from by decide +kernel] at q; exact q⟩⟩
theorem isOp_arg {r : List V} (hz : z = "write" ∨ z = "paste" ∨ z = "retype" ∨ z = "undo") : decide (argN z = ((V.str z :: r).length : Int) - 1) = isOp (V.str z :: r) := by
  have w1 : argN "write" = 1 := by decide +kernel
  have w2 : argN "paste" = 3 := by decide +kernel
  have w3 : argN "retype" = 2 := by decide +kernel
  have w4 : argN "undo" = -1 := by decide +kernel
  have n12 : ¬ (("write" : Str) = "paste") := by decide +kernel
  have n13 : ¬ (("write" : Str) = "retype") := by decide +kernel
  have n21 : ¬ (("paste" : Str) = "write") := by decide +kernel
  have n23 : ¬ (("paste" : Str) = "retype") := by decide +kernel
  have n31 : ¬ (("retype" : Str) = "write") := by decide +kernel
  have n32 : ¬ (("retype" : Str) = "paste") := by decide +kernel
  have n41 : ¬ (("undo" : Str) = "write") := by decide +kernel
  have n42 : ¬ (("undo" : Str) = "paste") := by decide +kernel
  have n43 : ¬ (("undo" : Str) = "retype") := by decide +kernel
  rcases hz with rfl | rfl | rfl | rfl
  all_goals
    rcases r with _ | ⟨a, _ | ⟨b, _ | ⟨c, _ | ⟨d, r⟩⟩⟩⟩
    all_goals simp only [w1, w2, w3, w4, isOp, n12, n13, n21, n23, n31, n32, n41, n42, n43, List.length_cons, List.length_nil, decide_true, decide_false]
    all_goals first | rfl | (apply decide_eq_false; omega) | (apply decide_eq_true; omega)
theorem rd_edset (e : H x = some (.ins C dx fs)) (c : Cls K C) (nn : NoAttr K C f) (l : fs.length < 1000) (h : ∀ H', But x H H' → H' x = some (.ins C dx (putF f y fs)) → k H') : rSFld K f y (.ref x) H k :=
  rd_sfld_at e c nn l (h _ (But.at But.refl) upd_same)
theorem fl6 {a b c d e f : Str} {va vb vc vd ve vf : V} : (putF f vf (putF e ve (putF d vd (putF c vc (putF b vb (putF a va [])))))).length < 1000 := Nat.lt_of_le_of_lt (putF_len (k := 5) (putF_len (k := 4) (putF_len (k := 3) (putF_len (k := 2) (putF_len (k := 1) (putF_len (k := 0) (Nat.le_refl 0))))))) (by decide)
/-- word, *arguments = t -/
theorem rd_gstar1 {t : TGs} {R : St → Hp → Prop} (hq : SqT K H a (v :: xs)) (hz : xs.length < 16384) (h : ∀ D H', Same H H' → H D = none → H' D = some (.lst xs) → t [v, .ref D] σ H' R) : gStar K 1 2 t (.ref a) σ H R := by
  refine ⟨a, v :: xs, rfl, hq, by simp, by simp; omega, fun D hD => ?_⟩
  have e : (v :: xs).length + 1 - 2 = xs.length := by simp
  rw [e]
  simp only [List.take_succ_cons, List.take_zero, List.drop_succ_cons, List.drop_zero, List.drop_length, List.take_length, List.append_nil, List.singleton_append]
  exact h D _ (Same.new (Same.refl _) hD) hD upd_same
theorem rd_tupleL (h : SqL K H a xs) (q : ∀ l H', Same H H' → H l = none → H' l = some (.tup xs) → Q (.ref l) H') : rTupA K [.ref a] H Q := rd_tuple_lst h fun l hl => q l _ (Same.new (Same.refl _) hl) hl upd_same
end
section
variable {K : PySem.W.Frag} {CIS CTL CIP CIL CT CP CE C : Addr} {H H' H1 : Hp} {Q : VK} {E : XK} {e : Addr} {xs ms rs : List V} {ss : List Stp} {ds : List Ent} {p l v : V} {A B : Sp}
theorem AddOut.same (S : Same H H1) (h : AddOut K CIS CTL CT CP CE H e ss ds xs Q E) : AddOut K CIS CTL CT CP CE H1 e ss ds xs Q E := by
  rcases h with ⟨s, h1, h2, h3, h4, k⟩ | ⟨h1, k⟩ | ⟨s, h1, h2, h3, h4, k⟩
  · exact .inl ⟨s, h1, h2, h3, h4, fun H' b ed => k H' ((But.same S).trans b) ed⟩
  · exact .inr (.inl ⟨h1, fun d H' S' => k d H' (Same.trans S S')⟩)
  · exact .inr (.inr ⟨s, h1, h2, h3, h4, fun H' S' => k H' (Same.trans S S')⟩)
theorem RetOut.same (S : Same H H1) (h : RetOut K CIP CIL CT CP CE H e ss ds p l Q E) : RetOut K CIP CIL CT CP CE H1 e ss ds p l Q E := by
  rcases h with ⟨i, c, h1, h2, h3, h4, h5, k⟩ | ⟨h1, k⟩ | ⟨h1, h2, k⟩
  · exact .inl ⟨i, c, h1, h2, h3, h4, h5, fun H' b ed => k H' ((But.same S).trans b) ed⟩
  · exact .inr (.inl ⟨h1, fun H' S' => k H' (Same.trans S S')⟩)
  · exact .inr (.inr ⟨h1, h2, fun H' S' => k H' (Same.trans S S')⟩)
theorem ExOut.same (S : Same H H1) (h : ExOut K CIS CTL CIP CIL CT CP CE H e ss ds xs Q E) : ExOut K CIS CTL CIP CIL CT CP CE H1 e ss ds xs Q E := by
  unfold ExOut at h ⊢
  split
  · exact RetOut.same S h
  · rename_i hn
    split at h
    · exact absurd rfl (hn _ _ _)
    · exact AddOut.same S h
theorem isOp_cases (h : isOp xs = true) : (∃ v, xs = [.str "write", v]) ∨ (∃ a b c, xs = [.str "paste", a, b, c]) ∨ ∃ p l, xs = [.str "retype", p, l] := by
  unfold isOp at h
  split at h
  · exact .inl ⟨_, by rw [of_decide_eq_true h]⟩
  · exact .inr (.inl ⟨_, _, _, by rw [of_decide_eq_true h]⟩)
  · exact .inr (.inr ⟨_, _, by rw [of_decide_eq_true h]⟩)
  · cases h
theorem rMk_l (h : rMk C A E rs H Q) : rMk C (fun vs H Q E => A vs H Q E ∨ B vs H Q E) E rs H Q := fun x dx a b c => .inl (h x dx a b c)
theorem rMk_r (h : rMk C B E rs H Q) : rMk C (fun vs H Q E => A vs H Q E ∨ B vs H Q E) E rs H Q := fun x dx a b c => .inr (h x dx a b c)
/-- a bad last step -/
theorem rej_last {a : Addr} (hs : StepsAt K H ms ss) (ok : okFrom 0 ss) (few : ss.length ≤ 30) (hq : SqT K H a xs) (hx : ∀ x ∈ xs, Sml x) (b : ss.length = 30 ∨ isSt (sz ss) xs = false)
    (k : ∀ d H', Same H H' → H' d = some (.xd [("index", .int (ss.length : Nat))]) → E (.ref CIS) (some d) H') : Rej K CIS CTL E H (ms ++ [.ref a]) := by
  refine ⟨ss, .ref a, by rw [← hs.1, List.take_left]; exact hs, ok, by rw [← hs.1, List.getElem?_append_right (Nat.le_refl _), Nat.sub_self]; rfl, few, .inl ⟨b.imp id fun b => ?_, k⟩⟩
  exact .inr ⟨a, xs, rfl, hx, .inl ⟨hq, b.symm⟩⟩
theorem rej_long {a : Addr} {s : Stp} (hs : StepsAt K H ms ss) (ok : okFrom 0 ss) (hq : StepAt K H (.ref a) s) (h1 : okStep (sz ss) s) (h2 : ss.length < 30) (h3 : 1000000000000000000 < sz ss + len1 s)
    (k : ∀ H', Same H H' → E (.ref CTL) none H') : Rej K CIS CTL E H (ms ++ [.ref a]) := by
  refine ⟨ss, .ref a, by rw [← hs.1, List.take_left]; exact hs, ok, by rw [← hs.1, List.getElem?_append_right (Nat.le_refl _), Nat.sub_self]; rfl, by omega, .inr ⟨s, hq, h1, h2, h3, k⟩⟩
theorem ok_snocE {s : Stp} (ok : okFrom 0 ss) (h1 : okStep (sz ss) s) (h2 : sz ss + len1 s ≤ 1000000000000000000) : okFrom 0 (ss ++ [s]) := (okFrom_append 0 ss [s]).mpr ⟨ok, by rw [Nat.zero_add]; exact ⟨h1, h2, trivial⟩⟩
theorem sml_word {z : Str} (h : z.length ≤ 100) : Sml (.str z) := ⟨trivial, fun y e => by cases e; rw [sizeLine_eq]; omega⟩
theorem sml_int {i : Int} : Sml (.int i) := ⟨trivial, fun _ e => nomatch e⟩
theorem rd_oItemA {a : Addr} {i : Int} (h : TX K CT CP H a ss) (h0 : 0 ≤ i) (h1 : i < sz ss) (q : Q (.str ⟨#[lat ss (kat ss i.toNat)]⟩) H) : InsA H a CT ∧ sp_Text_getitem K CT CP [.ref a, .int i] H Q E := by
  obtain ⟨a', e, h⟩ := rd_oItem h h0 h1 q (E := E)
  cases e
  exact h
theorem sgn_eqd (a c : Nat) : decide ((⟨#[a]⟩ : Str) = ⟨#[c]⟩) = decide (a = c) := decide_eq_decide.mpr ⟨fun h => by injection h with h; injection h with h; injection h, fun h => by rw [h]⟩
theorem kcs_at {k : Nat} (hk : k < (tyL ss).length) : (kcs ss 0 (sz ss))[((k : Nat) : Int).toNat]?.getD 0 = cn ss (sz ss) k := by
  rw [kcs_zero, List.getElem?_map, Int.toNat_natCast, List.getElem?_range hk]; rfl
theorem sml_op {ss : List Stp} {o : Op} (h : okOp ss o) : ∀ x ∈ opV o, Sml x := by
  intro x hx
  cases o with
  | st s => cases s with
    | wr w =>
      simp only [opV, stV, List.mem_cons, List.not_mem_nil, or_false] at hx
      rcases hx with rfl | rfl
      · exact sml_word (by decide +kernel)
      · exact sml_word (by have := h.1.2.1; omega)
    | pa f l t =>
      simp only [opV, stV, List.mem_cons, List.not_mem_nil, or_false] at hx
      rcases hx with rfl | rfl | rfl | rfl
      · exact sml_word (by decide +kernel)
      · exact sml_int
      · exact sml_int
      · exact sml_int
  | re p c =>
    simp only [opV, List.mem_cons, List.not_mem_nil, or_false] at hx
    rcases hx with rfl | rfl | rfl
    · exact sml_word (by decide +kernel)
    · exact sml_int
    · exact sml_word (show 1 ≤ 100 by decide)
theorem okB_at : ∀ {os : List Op} {ss : List Stp} {j : Nat} {o : Op}, okB ss os → os[j]? = some o → okOp (runB ss (os.take j)) o
  | [], _, _, _, _, h => by simp at h
  | a :: os, ss, 0, o, h, e => by cases e; exact h.1
  | a :: os, ss, j + 1, o, h, e => okB_at (ss := aft ss a) h.2 (by simpa using e)
theorem runB_snoc : ∀ (os : List Op) (ss : List Stp) (o : Op), runB ss (os ++ [o]) = aft (runB ss os) o
  | [], _, _ => rfl
  | a :: os, ss, o => runB_snoc os (aft ss a) o
theorem entsB_snoc : ∀ (os : List Op) (ss : List Stp) (o : Op), entsB ss (os ++ [o]) = entsB ss os ++ [⟨o, runB ss os, aft (runB ss os) o⟩]
  | [], _, _ => rfl
  | a :: os, ss, o => by show _ :: entsB (aft ss a) (os ++ [o]) = _; rw [entsB_snoc os (aft ss a) o]; rfl
theorem entsB_len : ∀ (os : List Op) (ss : List Stp), (entsB ss os).length = os.length
  | [], _ => rfl
  | a :: os, ss => congrArg (· + 1) (entsB_len os (aft ss a))
theorem form_op {o : Op} : OpForm (opV o) := by
  cases o with
  | st s => cases s with
    | wr w => exact .inr ⟨_, _, rfl, .inl rfl⟩
    | pa f l t => exact .inr ⟨_, _, rfl, .inr (.inl rfl)⟩
  | re p c => exact .inr ⟨_, _, rfl, .inr (.inr (.inl rfl))⟩
theorem isOp_op {o : Op} : isOp (opV o) = true := by
  cases o with
  | st s => cases s with
    | wr w => exact (show decide (("write" : Str) = "write") = true from by decide +kernel)
    | pa f l t => exact (show decide (("paste" : Str) = "paste") = true from by decide +kernel)
  | re p c => exact (show decide (("retype" : Str) = "retype") = true from by decide +kernel)
end
end L2.Px
set_option Elab.async false
set_option linter.all false
set_option maxRecDepth 100000
set_option maxHeartbeats 1000000
namespace L2.Px
open PySem PySem.Spec PyProof.Rows StX ClX
section
variable {K : PySem.W.Frag} {CIS CTL CIP CIL CT CP CE : Addr} {H H1 : Hp} {Q : VK} {E : XK} {e R : Addr} {ss : List Stp} {ds : List Ent} {o : Op}
theorem exOut_ok (h : okOp ss o) (k : ∀ H', But e H H' → EdAt K CT CP CE H' e (aft ss o) (ds ++ [⟨o, ss, aft ss o⟩]) [] → Q (.int (opN ss o : Nat)) H') : ExOut K CIS CTL CIP CIL CT CP CE H e ss ds (opV o) Q E := by
  cases o with
  | st s => cases s with
    | wr w => exact .inl ⟨.wr w, rfl, h.1, h.2.1, h.2.2, k⟩
    | pa f l t => exact .inl ⟨.pa f l t, rfl, h.1, h.2.1, h.2.2, k⟩
  | re p c => exact .inl ⟨p, c, rfl, rfl, h.1, h.2.1, h.2.2, k⟩
end
section
variable {J : It} {n : Nat} {it : Nat → V} {H1 : Hp} {te : TE} {vs : List Nat} {σ : St} {D : Addr} {Qd : Hp → Prop} {g : TG}
/-- [f(..) for target in ..], related answers, whatever the target's values are -/
theorem lc_relH (P : Plain J n it H1) (hD : H1 D = none) (hn : n ≤ sizeLine) (Rl : Nat → V → Hp → Prop) (mono : ∀ i y H H' l, i < n → H D = some (.lst l) → But D H H' → Rl i y H → Rl i y H')
    (hs : ∀ i H (Q : VK), i < n → Same H1 H → (∀ y H', Same H H' → Rl i y H' → Q y H') → g (it i) (wipe σ vs) H fun σ2 H2 => wipe σ2 vs = wipe σ vs ∧ te σ2 H2 Q)
    (hd : ∀ H ys, Same H1 H → H D = some (.lst ys) → ys.length = n → (∀ i, i < n → ∃ y, ys[i]? = some y ∧ Rl i y H) → Qd H) : LcW J g tYes te vs σ H1 D Qd := by
  refine ⟨fun i m H => m = n - i ∧ i ≤ n ∧ Same H1 H ∧ ∃ ys, H D = some (.lst ys) ∧ ys.length = i ∧ ∀ k, k < i → ∃ y, ys[k]? = some y ∧ Rl k y H, ⟨_, rfl, Nat.zero_le _, Same.new (Same.refl _) hD, [], upd_same, rfl, fun k hk => absurd hk (Nat.not_lt_zero _)⟩, ?_⟩
  rintro i m H ⟨rfl, hi, S, ys, eD, hl, hr⟩
  by_cases hlt : i < n
  · refine .inr ⟨P.go i H S hlt, fun H' => i + 1 ≤ n ∧ Same H1 H' ∧ ∃ ys, H' D = some (.lst ys) ∧ ys.length = i + 1 ∧ ∀ k, k < i + 1 → ∃ y, ys[k]? = some y ∧ Rl k y H', fun H' z => ⟨n - (i + 1), by omega, rfl, z⟩, fun x H' y => ?_⟩
    obtain ⟨e1, e2⟩ := P.yld i H x H' S hlt y
    subst e1 e2
    refine hs i H' _ hlt S fun y2 H2 S2 r => ⟨ys, S2 _ _ eD, by omega, hlt, Same.mut (S.trans S2) hD, ys ++ [y2], upd_same, by simp [hl], fun k hk => ?_⟩
    by_cases hki : k < i
    · obtain ⟨y', h1, h2⟩ := hr k hki
      exact ⟨y', by rw [List.getElem?_append_left (by omega)]; exact h1, mono _ _ _ _ _ (by omega) eD (But.at (But.same S2)) h2⟩
    · have ek : k = i := by omega
      subst ek
      exact ⟨y2, by rw [List.getElem?_append_right (by omega), hl]; simp, mono _ _ _ _ _ (by omega) (S2 _ _ eD) (But.at But.refl) r⟩
  · have e : i = n := by omega
    subst e
    exact .inl ⟨P.stop H S, hd H ys S eD hl hr⟩
end
section
variable {K : PySem.W.Frag} {CT CP CE : Addr} {H H1 : Hp} {Q : VK} {E : XK} {rs ms : List V} {ss : List Stp} {os : List Op}
theorem rd_mkEd (hst : StepsAt K H rs ss) (ok : okFrom 0 ss) (few : ss.length ≤ 30) (q : ∀ x Hc, H x = none → Same H Hc → EdAt K CT CP CE Hc x ss [] [] → Q (.ref x) Hc) :
    rMk CE (spStar 1 (sp_Editor_init K CT CP CE)) E rs H Q := by
  intro x dx nx nd ne
  have S1 : Same H (upd (upd H dx (.own x)) x (.ins CE dx [])) := Same.mut (Same.mut (Same.refl _) nd) nx
  refine ⟨[.ref x], rs, rfl, rfl, by rw [hst.1]; exact Nat.le_trans few (Nat.le_of_lt line30), fun p np => ?_⟩
  have S2 := Same.new (o := .tup rs) S1 np
  exact ⟨x, dx, p, rs, ss, rfl, lk_new np upd_same, SqT.of upd_same, hst.mono S2, ok, few, fun H' k T => ⟨rfl, q x H' nx (fun b o e => k b o (ne_of_none e nx) (S2 _ _ e)) T⟩⟩
theorem OpsAt.mono (h : OpsAt K H ms os) (S : Same H H1) : OpsAt K H1 ms os := ⟨h.1, fun j o q => let ⟨v, a, b, c, d⟩ := h.2 j o q; ⟨v, a, b, c, Same.tup S d⟩⟩
end
end L2.Px
set_option Elab.async false
set_option linter.all false
set_option maxRecDepth 100000
set_option maxHeartbeats 1000000
namespace L2.Px
open PySem PySem.Spec PyProof.Rows StX TL ClX LamX
def gL (ls : List (Nat × Nat)) (k : Nat) : Option Nat := (ls.find? fun c => decide (c.1 = k)).map (·.2)
def putL (ls : List (Nat × Nat)) (k c : Nat) : List (Nat × Nat) := if (ls.any fun p => decide (p.1 = k)) = true then ls.map (fun p => if p.1 = k then (p.1, c) else p) else ls ++ [(k, c)]
def kvM (ls : List (Nat × Nat)) : List (Key × V) := ls.map fun c => ((Sum.inl ((c.1 : Nat) : Int) : Key), V.str ⟨#[c.2]⟩)
theorem gL_cons (p : Nat × Nat) (ls : List (Nat × Nat)) (k : Nat) : gL (p :: ls) k = if p.1 = k then some p.2 else gL ls k := by
  unfold gL
  rw [List.find?_cons]
  by_cases h : p.1 = k
  · rw [decide_eq_true h, if_pos h]; rfl
  · rw [decide_eq_false h, if_neg h]
theorem kvM_val : ∀ (ls : List (Nat × Nat)) (k : Nat), valV (kvM ls) (Sum.inl ((k : Nat) : Int) : Key) = (gL ls k).map fun c => V.str ⟨#[c]⟩
  | [], _ => rfl
  | c :: cs, k => by
    show valV (((Sum.inl ((c.1 : Nat) : Int) : Key), V.str ⟨#[c.2]⟩) :: kvM cs) _ = _
    rw [gL_cons]
    by_cases e : c.1 = k
    · rw [valV_pos (by rw [e]), if_pos e]; rfl
    · rw [valV_neg (by intro z; have := Sum.inl.inj z; omega), kvM_val cs k, if_neg e]
theorem kvM_put (ls : List (Nat × Nat)) (k c : Nat) : putK (kvM ls) (Sum.inl ((k : Nat) : Int) : Key) (.str ⟨#[c]⟩) = kvM (putL ls k c) := by
  unfold putK putL
  have e : ((kvM ls).any fun kv => decide (kv.1 = (Sum.inl ((k : Nat) : Int) : Key))) = ls.any fun p => decide (p.1 = k) := by
    unfold kvM
    rw [List.any_map]
    refine congrArg (fun f => ls.any f) (funext fun p => decide_eq_decide.mpr ⟨fun z => ?_, fun z => by show (Sum.inl ((p.1 : Nat) : Int) : Key) = _; rw [z]⟩)
    have := Sum.inl.inj (show (Sum.inl ((p.1 : Nat) : Int) : Key) = Sum.inl ((k : Nat) : Int) from z)
    omega
  rw [e]
  split
  · unfold kvM
    rw [List.map_map, List.map_map]
    refine List.map_congr_left fun p _ => ?_
    show (if (Sum.inl ((p.1 : Nat) : Int) : Key) = Sum.inl ((k : Nat) : Int) then ((Sum.inl ((p.1 : Nat) : Int) : Key), V.str ⟨#[c]⟩) else (Sum.inl ((p.1 : Nat) : Int), V.str ⟨#[p.2]⟩)) = _
    by_cases z : p.1 = k
    · rw [if_pos (by rw [z])]
      show _ = ((Sum.inl (((if p.1 = k then (p.1, c) else p).1 : Nat) : Int) : Key), V.str ⟨#[(if p.1 = k then (p.1, c) else p).2]⟩)
      rw [if_pos z]
    · rw [if_neg (by intro y; have := Sum.inl.inj y; omega)]
      show _ = ((Sum.inl (((if p.1 = k then (p.1, c) else p).1 : Nat) : Int) : Key), V.str ⟨#[(if p.1 = k then (p.1, c) else p).2]⟩)
      rw [if_neg z]
  · unfold kvM; rw [List.map_append]; rfl
theorem putL_keys (ls : List (Nat × Nat)) (k c : Nat) : (putL ls k c).map (·.1) = if k ∈ ls.map (·.1) then ls.map (·.1) else ls.map (·.1) ++ [k] := by
  unfold putL
  have e : (ls.any fun p => decide (p.1 = k)) = decide (k ∈ ls.map (·.1)) := by
    rw [Bool.eq_iff_iff, List.any_eq_true, decide_eq_true_iff, List.mem_map]
    constructor
    · rintro ⟨p, h1, h2⟩; exact ⟨p, h1, of_decide_eq_true h2⟩
    · rintro ⟨p, h1, h2⟩; exact ⟨p, h1, decide_eq_true h2⟩
  rw [e]
  by_cases h : k ∈ ls.map (·.1)
  · rw [if_pos (decide_eq_true h), if_pos h, List.map_map]
    refine List.map_congr_left fun p _ => ?_
    show (if p.1 = k then (p.1, c) else p).1 = p.1
    split <;> rfl
  · rw [if_neg (by rw [decide_eq_false h]; exact Bool.false_ne_true), if_neg h, List.map_append]; rfl
/-- the letters are letters, the keys unlike and below n -/
structure LsOk (n : Nat) (ls : List (Nat × Nat)) : Prop where
  ok : ∀ p ∈ ls, p.1 < n ∧ 97 ≤ p.2 ∧ p.2 ≤ 122
  nd : (ls.map (·.1)).Nodup
theorem LsOk.nil {n : Nat} : LsOk n [] := ⟨fun p h => absurd h (List.not_mem_nil), List.Pairwise.nil⟩
theorem LsOk.put {n : Nat} {ls : List (Nat × Nat)} {k c : Nat} (h : LsOk n ls) (hk : k < n) (h1 : 97 ≤ c) (h2 : c ≤ 122) : LsOk n (putL ls k c) := by
  refine ⟨fun p hp => ?_, ?_⟩
  · unfold putL at hp
    split at hp
    · obtain ⟨q, hq, rfl⟩ := List.mem_map.mp hp
      have := h.ok q hq
      split
      · exact ⟨this.1, h1, h2⟩
      · exact this
    · rcases List.mem_append.mp hp with hp | hp
      · exact h.ok p hp
      · rw [List.mem_singleton.mp hp]; exact ⟨hk, h1, h2⟩
  · rw [putL_keys]
    split
    · exact h.nd
    · rename_i z
      rw [List.nodup_append]
      exact ⟨h.nd, List.pairwise_singleton _ _, fun a ha b hb => by rw [List.mem_singleton.mp hb]; intro e; exact z (e ▸ ha)⟩
theorem LsOk.len {n : Nat} {ls : List (Nat × Nat)} (h : LsOk n ls) : ls.length ≤ n := by
  have := nodup_len (m := List.range n) h.nd fun k hk => by
    obtain ⟨p, hp, rfl⟩ := List.mem_map.mp hk
    exact List.mem_range.mpr (h.ok p hp).1
  simpa using this
/-- the keys whose letters are known, and their letters -/
def knownL (f : Nat → Nat) (ls : List (Nat × Nat)) (n : Nat) : List (Nat × Nat) := (List.range n).filterMap fun k => (gL ls (f k)).map fun c => (k, c)
def knownN (f : Nat → Nat) (ls : List (Nat × Nat)) (n : Nat) : Nat := ((List.range n).filter fun k => (gL ls (f k)).isSome).length
/-- the least keys of the classes without a known letter -/
def openH (f : Nat → Nat) (ls : List (Nat × Nat)) (n : Nat) : List Nat := (List.range n).filter fun k => decide (f k = k) && (gL ls k).isNone
/-- the place where a key is written -/
def fstP : List Stp → Nat → Nat
  | [], _ => 0
  | .wr w :: r, k => if k < w.length then k else w.length + fstP r (k - w.length)
  | .pa f l t :: r, k => (l + 1 - f) * t + fstP r k
inductive Obs where
  | see (p c : Nat)
  | word (p : Nat) (w : List Nat)
  | alike (p o : Nat)
deriving DecidableEq
def obsV : Obs → List V
  | .see p c => [.str "see", .int (p : Nat), .str ⟨#[c]⟩]
  | .word p w => [.str "see_word", .int (p : Nat), .str (mkS w)]
  | .alike p o => [.str "hear_alike", .int (p : Nat), .int (o : Nat)]
def ObsAt (K : PySem.W.Frag) (H : Hp) (ms : List V) (ob : List Obs) : Prop := ms.length = ob.length ∧ ∀ (j : Nat) o, ob[j]? = some o → ∃ a, ms[j]? = some (V.ref a) ∧ SqT K H a (obsV o)
def Bt (A : List Addr) (H H' : Hp) : Prop := ∀ b o, b ∉ A → H b = some o → H' b = some o
def Kh (C : Addr) (H H' : Hp) : Prop := ∀ b o, (∀ dx fs, o ≠ .ins C dx fs) → (∀ kvs, o ≠ .dK kvs) → (∀ y L, o ≠ .lst (natV (y :: L))) → H b = some o → H' b = some o
section
variable {K : PySem.W.Frag} {CT CP CE CK C : Addr} {T : List (Addr × Str)} {A B : List Addr} {H H' H1 : Hp} {a b x h d t l r e : Addr} {o : HO} {v : V} {xs ms ps : List V} {s : Stp} {ss : List Stp} {n y : Nat} {ob : List Obs} {os : List Op} {ds us : List Ent}
theorem Bt.refl : Bt A H H := fun _ _ _ h => h
theorem Bt.trans (e : Bt A H H1) (g : Bt A H1 H') : Bt A H H' := fun b o hb h => g b o hb (e b o hb h)
theorem Bt.same (S : Same H H') : Bt A H H' := fun b o _ h => S b o h
theorem Bt.but (e : But x H H') (hx : x ∈ A) : Bt A H H' := fun b o hb h => e b o (fun z => hb (z ▸ hx)) h
theorem Bt.up {B : List Addr} (e : Bt A H H') (h : ∀ a ∈ A, a ∈ B) : Bt B H H' := fun b o hb q => e b o (fun z => hb (h b z)) q
/-- what is new is changed -/
theorem Bt.fresh (S : Same H H1) (e : Bt A H1 H') (n : ∀ a ∈ A, H a = none) : Same H H' := fun b o q => e b o (fun z => by rw [n b z] at q; cases q) (S b o q)
theorem Kh.refl : Kh C H H := fun _ _ _ _ _ h => h
theorem Kh.trans (e : Kh C H H1) (g : Kh C H1 H') : Kh C H H' := fun b o h1 h2 h3 h => g b o h1 h2 h3 (e b o h1 h2 h3 h)
theorem Kh.same (S : Same H H') : Kh C H H' := fun b o _ _ _ h => S b o h
theorem nn_refs (h : ∀ v ∈ xs, isRef v = true) : ∀ y L, HO.lst xs ≠ .lst (natV (y :: L)) := by
  intro y L e
  cases e
  have := h (.int (y : Nat)) (by unfold natV; exact List.mem_cons_self)
  cases this
theorem Kh.tup (e : Kh C H H') (h : SqT K H a xs) : SqT K H' a xs := by
  rcases h with (h | ⟨o, h⟩) | h
  · exact .inl (.inl (e _ _ (fun _ _ z => nomatch z) (fun _ z => nomatch z) (fun _ _ z => nomatch z) h))
  · exact .inl (.inr ⟨o, e _ _ (fun _ _ z => nomatch z) (fun _ z => nomatch z) (fun _ _ z => nomatch z) h⟩)
  · exact .inr h
theorem Kh.tu (e : Kh C H H') (h : H a = some (.tup xs)) : H' a = some (.tup xs) := e _ _ (fun _ _ z => nomatch z) (fun _ z => nomatch z) (fun _ _ z => nomatch z) h
theorem Kh.li (e : Kh C H H') (n : ∀ v ∈ xs, isRef v = true) (h : H a = some (.lst xs)) : H' a = some (.lst xs) := e _ _ (fun _ _ z => nomatch z) (fun _ z => nomatch z) (nn_refs n) h
theorem Kh.lst (e : Kh C H H') (n : ∀ v ∈ xs, isRef v = true) (h : SqL K H a xs) : SqL K H' a xs := by
  rcases h with (h | ⟨o, h⟩) | h
  · exact .inl (.inl (e.li n h))
  · exact .inl (.inr ⟨o, e _ _ (fun _ _ z => nomatch z) (fun _ z => nomatch z) (fun _ _ z => nomatch z) h⟩)
  · exact .inr h
theorem Kh.tabs (e : Kh C H H') (t : Tabs T H) : Tabs T H' := by
  intro p hp
  obtain ⟨ps, h1, h2, h3⟩ := t p hp
  refine ⟨ps, e _ _ (fun _ _ z => nomatch z) (fun _ z => nomatch z) (fun _ _ z => nomatch z) h1, h2, fun pos cv hc => ?_⟩
  obtain ⟨c, h4, h5⟩ := h3 pos cv hc
  exact ⟨c, h4, e _ _ (fun _ _ z => nomatch z) (fun _ z => nomatch z) (fun _ _ z => nomatch z) h5⟩
theorem StepsAt.kh (h : StepsAt K H ms ss) (e : Kh C H H') : StepsAt K H' ms ss := ⟨h.1, fun j s q => let ⟨v, a, b, c, z⟩ := h.2 j s q; ⟨v, a, b, c, e.tup z⟩⟩
theorem PartAt.kh (hn : CP ≠ C) (h : PartAt CP H v n y s) (e : Kh C H H') : PartAt CP H' v n y s := by
  cases s with
  | wr w => obtain ⟨p, dx, ev, q⟩ := h; exact ⟨p, dx, ev, e _ _ (ins_ne hn) (fun _ z => nomatch z) (fun _ _ z => nomatch z) q⟩
  | pa f l t => obtain ⟨p, dx, ev, q⟩ := h; exact ⟨p, dx, ev, e _ _ (ins_ne hn) (fun _ z => nomatch z) (fun _ _ z => nomatch z) q⟩
theorem PartsAt.kh (hn : CP ≠ C) (h : PartsAt CP H ps ss) (e : Kh C H H') : PartsAt CP H' ps ss := ⟨h.1, fun j s q => let ⟨v, a, b⟩ := h.2 j s q; ⟨v, a, b.kh hn e⟩⟩
theorem TX.kh (h : TX K CT CP H a ss) (hT : CT ≠ C) (hP : CP ≠ C) (e : Kh C H H') : TX K CT CP H' a ss :=
  let ⟨t, x, y⟩ := h; ⟨t, ⟨e _ _ (ins_ne hT) (fun _ z => nomatch z) (fun _ _ z => nomatch z) x.ins, e.tup x.made, x.stp.kh e, e.li x.prt.refs x.pls, x.prt.kh hP e, x.ok, x.few⟩, y⟩
theorem TS'.kh (h : TS' K H a ss) (e : Kh C H H') : TS' K H' a ss := let ⟨ms, x, y⟩ := h; ⟨ms, e.tup x, y.kh e⟩
theorem OpAt.kh {o : Op} (h : OpAt K H v o) (e : Kh C H H') : OpAt K H' v o := let ⟨a, b, c⟩ := h; ⟨a, b, e.tup c⟩
theorem OpsAt.kh (h : OpsAt K H ms os) (e : Kh C H H') : OpsAt K H' ms os := ⟨h.1, fun j s q => let ⟨v, a, b⟩ := h.2 j s q; ⟨v, a, b.kh e⟩⟩
theorem EntsAt.kh {es : List Ent} (hT : CT ≠ C) (hP : CP ≠ C) (h : EntsAt K CT CP H ms es) (k : Kh C H H') : EntsAt K CT CP H' ms es :=
  ⟨h.1, fun j s q => let ⟨v, a, t, o, b, c, ev, q0, h1, h2, h3⟩ := h.2 j s q; ⟨v, a, t, o, b, c, ev, k.tup q0, h1.kh k, h2.kh hT hP k, h3.kh hT hP k⟩⟩
theorem EdAt.kh (hT : CT ≠ C) (hP : CP ≠ C) (hE : CE ≠ C) (h : EdAt K CT CP CE H e ss ds us) (k : Kh C H H') : EdAt K CT CP CE H' e ss ds us := by
  obtain ⟨i, a, b⟩ := h
  exact ⟨i, ⟨k _ _ (ins_ne hE) (fun _ z => nomatch z) (fun _ _ z => nomatch z) a.ins, a.tx.kh hT hP k, k.tup a.dn, a.de.kh hT hP k, k.tup a.un, a.ue.kh hT hP k⟩, b⟩
theorem ObsAt.kh (h : ObsAt K H ms ob) (e : Kh C H H') : ObsAt K H' ms ob := ⟨h.1, fun j s q => let ⟨a, b, c⟩ := h.2 j s q; ⟨a, b, e.tup c⟩⟩
theorem ObsAt.kl (h : ObsAt K H ms ob) (e : Kl T H H') : ObsAt K H' ms ob := ⟨h.1, fun j s q => let ⟨a, b, c⟩ := h.2 j s q; ⟨a, b, e.tup c⟩⟩
theorem ObsAt.mono (h : ObsAt K H ms ob) (e : Same H H') : ObsAt K H' ms ob := ⟨h.1, fun j s q => let ⟨a, b, c⟩ := h.2 j s q; ⟨a, b, Same.tup e c⟩⟩
theorem ObsAt.nil : ObsAt K H [] [] := ⟨rfl, fun _ _ h => by simp at h⟩
theorem ObsAt.snoc {o : Obs} (h : ObsAt K H ms ob) (q : SqT K H a (obsV o)) : ObsAt K H (ms ++ [.ref a]) (ob ++ [o]) := by
  refine ⟨by simp [h.1], fun j s hj => ?_⟩
  rcases Nat.lt_or_ge j ob.length with z | z
  · rw [List.getElem?_append_left z] at hj
    obtain ⟨v', a, b⟩ := h.2 j s hj
    exact ⟨v', by rw [List.getElem?_append_left (by rw [h.1]; exact z)]; exact a, b⟩
  · have e : j = ob.length := by
      have := (List.getElem?_eq_some_iff.mp hj).1
      rw [List.length_append, List.length_singleton] at this; omega
    subst e
    rw [List.getElem?_append_right (Nat.le_refl _), Nat.sub_self] at hj
    cases hj
    exact ⟨a, by rw [← h.1, List.getElem?_append_right (Nat.le_refl _), Nat.sub_self]; rfl, q⟩
end
def rdF (t h d s : V) : List (Str × V) := [("source_text", t), ("heads", h), ("letters", d), ("seen", s)]
section
variable {t h d s v : V} {f : Str}
theorem rdF_text : (rdF t h d s).lookup ("source_text" : Str) = some t := by unfold rdF; rw [List.lookup_cons_self]
theorem rdF_heads : (rdF t h d s).lookup ("heads" : Str) = some h := by
  unfold rdF; rw [List.lookup_cons, show (("heads" : Str) == "source_text") = false by decide +kernel]; simp only; rw [List.lookup_cons_self]
theorem rdF_letters : (rdF t h d s).lookup ("letters" : Str) = some d := by
  unfold rdF; rw [List.lookup_cons, show (("letters" : Str) == "source_text") = false by decide +kernel]; simp only
  rw [List.lookup_cons, show (("letters" : Str) == "heads") = false by decide +kernel]; simp only; rw [List.lookup_cons_self]
theorem rdF_seen : (rdF t h d s).lookup ("seen" : Str) = some s := by
  unfold rdF; rw [List.lookup_cons, show (("seen" : Str) == "source_text") = false by decide +kernel]; simp only
  rw [List.lookup_cons, show (("seen" : Str) == "heads") = false by decide +kernel]; simp only
  rw [List.lookup_cons, show (("seen" : Str) == "letters") = false by decide +kernel]; simp only; rw [List.lookup_cons_self]
theorem rdF_put : putF "seen" v (rdF t h d s) = rdF t h d v := by unfold rdF; rw [putF_miss (by decide +kernel), putF_miss (by decide +kernel), putF_miss (by decide +kernel), putF_hit]
theorem rdF_made : putF "seen" s (putF "letters" d (putF "heads" h (putF "source_text" t []))) = rdF t h d s := by
  unfold rdF
  rw [putF_nil]
  rw [putF_miss (f := "heads") (g := "source_text") (by decide +kernel), putF_nil]
  rw [putF_miss (f := "letters") (g := "source_text") (by decide +kernel), putF_miss (f := "letters") (g := "heads") (by decide +kernel), putF_nil]
  rw [putF_miss (f := "seen") (g := "source_text") (by decide +kernel), putF_miss (f := "seen") (g := "heads") (by decide +kernel), putF_miss (f := "seen") (g := "letters") (by decide +kernel), putF_nil]
theorem rdF_no (h' : f ≠ "source_text" ∧ f ≠ "heads" ∧ f ≠ "letters" ∧ f ≠ "seen") : (rdF t h d s).lookup f = none := by
  unfold rdF
  simp only [List.lookup_cons, beq_false_of_ne h'.1, beq_false_of_ne h'.2.1, beq_false_of_ne h'.2.2.1, beq_false_of_ne h'.2.2.2, List.lookup_nil]
theorem rdF_len : (rdF t h d s).length < 1000 := by show 4 < 1000; decide
end
structure RdI where
  dx : Addr
  t : Addr
  s : Addr
  sm : List V
  hs : List Nat
/-- the reader at x, its heads at h, its dict at d: its text, the roots, the letters of roots, the observations -/
structure RdAt (K : PySem.W.Frag) (CT CP CK : Addr) (H : Hp) (x h d : Addr) (ss : List Stp) (f : Nat → Nat) (ls : List (Nat × Nat)) (ob : List Obs) (i : RdI) : Prop where
  ins : H x = some (.ins CK i.dx (rdF (.ref i.t) (.ref h) (.ref d) (.ref i.s)))
  tx : TX K CT CP H i.t ss
  hl : H h = some (.lst (natV i.hs))
  dl : H d = some (.dK (kvM ls))
  sn : SqT K H i.s i.sm
  obs : ObsAt K H i.sm ob
  rt : Rt i.hs f
  len : i.hs.length = (tyL ss).length
  lok : LsOk (tyL ss).length ls
def Reader (K : PySem.W.Frag) (CT CP CK : Addr) (H : Hp) (x h d : Addr) (ss : List Stp) (f : Nat → Nat) (ls : List (Nat × Nat)) (ob : List Obs) : Prop := ∃ i, RdAt K CT CP CK H x h d ss f ls ob i
section
variable {K : PySem.W.Frag} {CT CP CE CK : Addr} {H H' : Hp} {x h d l p : Addr} {ss : List Stp} {f : Nat → Nat} {ls : List (Nat × Nat)} {ob : List Obs} {i : RdI} {Q : VK} {E : XK}
theorem RdAt.same (r : RdAt K CT CP CK H x h d ss f ls ob i) (S : Same H H') : RdAt K CT CP CK H' x h d ss f ls ob i :=
  ⟨S _ _ r.ins, r.tx.kp (.same S), S _ _ r.hl, S _ _ r.dl, Same.tup S r.sn, r.obs.kh (C := x) (.same S), r.rt, r.len, r.lok⟩
theorem Reader.same (r : Reader K CT CP CK H x h d ss f ls ob) (S : Same H H') : Reader K CT CP CK H' x h d ss f ls ob := let ⟨i, a⟩ := r; ⟨i, a.same S⟩
theorem Reader.kl {T : List (Addr × Str)} (r : Reader K CT CP CK H x h d ss f ls ob) (k : Kl T H H') : Reader K CT CP CK H' x h d ss f ls ob := let ⟨i, a⟩ := r
  ⟨i, k.keep _ _ nr_ins (fun _ z => nomatch z) a.ins, a.tx.kl k, k.keep _ _ nr_natV (fun _ z => nomatch z) a.hl, k.keep _ _ id (fun _ z => nomatch z) a.dl, k.tup a.sn, a.obs.kl k, a.rt, a.len, a.lok⟩
theorem Reader.kp (r : Reader K CT CP CK H x h d ss f ls ob) (k : Kp H H') : Reader K CT CP CK H' x h d ss f ls ob := r.kl (T := []) (.kp k)
/-- an editor changes -/
theorem Reader.km {T : List (Addr × Str)} (hT : CT ≠ CE) (hP : CP ≠ CE) (hK : CK ≠ CE) (r : Reader K CT CP CK H x h d ss f ls ob) (k : Km CE T H H') : Reader K CT CP CK H' x h d ss f ls ob := let ⟨i, a⟩ := r
  ⟨i, k.keep _ _ nr_ins (fun _ z => nomatch z) (ins_ne hK) a.ins, a.tx.km hT hP k, k.li nr_natV a.hl, k.keep _ _ id (fun _ z => nomatch z) (fun _ _ z => nomatch z) a.dl, k.tup a.sn, ⟨a.obs.1, fun j o q => let ⟨b, e, g⟩ := a.obs.2 j o q; ⟨b, e, k.tup g⟩⟩, a.rt, a.len, a.lok⟩
theorem Reader.insM {m : Str} (r : Reader K CT CP CK H x h d ss f ls ob) (hm : m ≠ "source_text" ∧ m ≠ "heads" ∧ m ≠ "letters" ∧ m ≠ "seen" := by decide +kernel) : InsM H x CK m := let ⟨_, a⟩ := r; ⟨_, _, a.ins, rdF_no hm⟩
theorem Reader.insA (r : Reader K CT CP CK H x h d ss f ls ob) : InsA H x CK := let ⟨_, a⟩ := r; ⟨_, _, a.ins⟩
/-- the reader changes: texts, rows, tables, editors stay -/
theorem Reader.kh (r : Reader K CT CP CK H x h d ss f ls ob) (h0 : 0 < (tyL ss).length) (e : Bt [x, h, d] H H') : Kh CK H H' := by
  obtain ⟨i, a⟩ := r
  refine fun b o h1 h2 h3 q => e b o ?_ q
  intro hb
  simp only [List.mem_cons, List.not_mem_nil, or_false] at hb
  rcases hb with rfl | rfl | rfl
  · rw [a.ins] at q; cases q; exact h1 _ _ rfl
  · rw [a.hl] at q
    cases q
    have hl := a.len
    cases hh : i.hs with
    | nil => rw [hh] at hl; simp at hl; omega
    | cons y L => exact h3 y L (by rw [hh])
  · rw [a.dl] at q; cases q; exact h2 _ rfl
variable (K CT CP CK)
def sp_KeyReader_init : Sp := fun vs H Q _ => ∃ x dx t ss, vs = [.ref x, .ref t] ∧ H x = some (.ins CK dx []) ∧ TX K CT CP H t ss ∧ ∀ H' h d, But x H H' → H h = none → H d = none → h ≠ x → d ≠ x → h ≠ d → Reader K CT CP CK H' x h d ss id [] [] → Q .non H'
def sp_KeyReader_head : Sp := fun vs H Q _ => ∃ x h d ss f ls ob, ∃ k : Nat, vs = [.ref x, .int k] ∧ Reader K CT CP CK H x h d ss f ls ob ∧ k < (tyL ss).length ∧ Q (.int (f k : Nat)) H
def sp_KeyReader_accept_letter : Sp := fun vs H Q _ => ∃ x h d ss f ls ob, ∃ k c : Nat, vs = [.ref x, .int k, .str ⟨#[c]⟩] ∧ Reader K CT CP CK H x h d ss f ls ob ∧ k < (tyL ss).length ∧ 97 ≤ c ∧ c ≤ 122 ∧ (∀ c', gL ls (f k) = some c' → c' = c) ∧ ∀ H', But d H H' → Reader K CT CP CK H' x h d ss f (putL ls (f k) c) ob → Q .non H'
def sp_KeyReader_known_count : Sp := fun vs H Q _ => ∃ x h d ss f ls ob, vs = [.ref x] ∧ Reader K CT CP CK H x h d ss f ls ob ∧ ∀ H', Same H H' → Q (.int (knownN f ls (tyL ss).length : Nat)) H'
def sp_KeyReader_see : Sp := fun vs H Q _ => ∃ x h d ss f ls ob, ∃ p c : Nat, vs = [.ref x, .int p, .str ⟨#[c]⟩] ∧ Reader K CT CP CK H x h d ss f ls ob ∧ p < sz ss ∧ 97 ≤ c ∧ c ≤ 122 ∧ (∀ c', gL ls (f (kat ss p)) = some c' → c' = c) ∧ ob.length < 10000 ∧
  ∀ H', Bt [x, h, d] H H' → Reader K CT CP CK H' x h d ss f (putL ls (f (kat ss p)) c) (ob ++ [.see p c]) → Q (.int (knownN f (putL ls (f (kat ss p)) c) (tyL ss).length : Nat)) H'
def sp_KeyReader_known_letters : Sp := fun vs H Q _ => ∃ x h d ss f ls ob, vs = [.ref x] ∧ Reader K CT CP CK H x h d ss f ls ob ∧ ∀ H' p, Same H H' → H p = none → H' p = some (.dK (kvM (knownL f ls (tyL ss).length))) → Q (.ref p) H'
def sp_KeyReader_observations : Sp := fun vs H Q _ => ∃ x h d ss f ls ob, vs = [.ref x] ∧ Reader K CT CP CK H x h d ss f ls ob ∧ ob.length ≤ 10000 ∧ ∀ H' p ms, Same H H' → H p = none → H' p = some (.lst ms) → ObsAt K H' ms ob → Q (.ref p) H'
def sp_KeyReader_open_heads : Sp := fun vs H Q _ => ∃ x h d ss f ls ob, vs = [.ref x] ∧ Reader K CT CP CK H x h d ss f ls ob ∧ ∀ H' p, Same H H' → H p = none → H' p = some (.lst (natV (openH f ls (tyL ss).length))) → Q (.ref p) H'
def sp_KeyReader_first_place : Sp := fun vs H Q _ => ∃ x h d ss f ls ob, ∃ k : Nat, vs = [.ref x, .int k] ∧ Reader K CT CP CK H x h d ss f ls ob ∧ k < (tyL ss).length ∧ ∀ H', Same H H' → Q (.int (fstP ss k : Nat)) H'
def sp_KeyReader_fewest_places : Sp := fun vs H Q _ => ∃ x h d ss f ls ob, vs = [.ref x] ∧ Reader K CT CP CK H x h d ss f ls ob ∧ ∀ H' p, Same H H' → H p = none → H' p = some (.lst (natV ((openH f ls (tyL ss).length).map (fstP ss)))) → Q (.ref p) H'
end
end L2.Px
set_option Elab.async false
set_option linter.all false
set_option maxRecDepth 100000
set_option maxHeartbeats 4000000
namespace L2.Px
open PySem PySem.Spec PyProof.Rows
end L2.Px
set_option Elab.async false
set_option linter.all false
set_option maxRecDepth 100000
set_option maxHeartbeats 2000000
namespace L2.Px
open PySem PySem.Spec PyProof.Rows StX TL
end L2.Px
namespace L2.Px
open PySem PySem.Spec PyProof.Rows StX TL
end L2.Px
set_option Elab.async false
set_option linter.all false
set_option maxRecDepth 100000
set_option maxHeartbeats 1000000
namespace L2.Px
open PySem PySem.Spec PyProof.Rows StX TL ClX LamX
section
variable {J : It} {n : Nat} {it : Nat → V} {H1 : Hp} {g : TG} {tt : TT} {tk tv : TE} {vs : List Nat} {σ : St} {D : Addr} {Qd : Hp → Prop}
/-- {kf x: vf x for a, b in .. if p}, the keys all unlike -/
theorem dc_filtG (P : Plain J n it H1) (hD : H1 D = none) (hn : n < sizeLine) (τ : Nat → St) (hw : ∀ i, wipe (τ i) vs = wipe σ vs) (hg : ∀ i H (R : St → Hp → Prop), i < n → Same H1 H → R (τ i) H → g (it i) (wipe σ vs) H R)
    (kf : Nat → Key) (vf : Nat → V) (p : Nat → Bool) (hk : ∀ i k, i < k → k < n → kf i ≠ kf k)
    (ht : ∀ i H (R : Bool → Hp → Prop), i < n → Same H1 H → (∀ H', Same H H' → R (p i) H') → tt (τ i) H R)
    (hs : ∀ i H (Q : VK), i < n → p i = true → Same H1 H → (∀ H', Same H H' → Q (kV (kf i)) H') → tk (τ i) H Q)
    (hv : ∀ i H (Q : VK), i < n → p i = true → Same H1 H → (∀ H', Same H H' → Q (vf i) H') → tv (τ i) H Q)
    (hd : ∀ H, Same H1 H → H D = some (.dK (((List.range n).filter p).map fun i => (kf i, vf i))) → Qd H) : DcW J g tt tk tv vs σ H1 D Qd := by
  refine ⟨fun i m H => m = n - i ∧ i ≤ n ∧ Same H1 H ∧ H D = some (.dK (((List.range i).filter p).map fun i => (kf i, vf i))), ⟨_, rfl, Nat.zero_le _, Same.new (Same.refl _) hD, upd_same⟩, ?_⟩
  rintro i m H ⟨rfl, hi, S, eD⟩
  by_cases hlt : i < n
  · refine .inr ⟨P.go i H S hlt, fun H' => i + 1 ≤ n ∧ Same H1 H' ∧ H' D = some (.dK (((List.range (i + 1)).filter p).map fun i => (kf i, vf i))), fun H' z => ⟨n - (i + 1), by omega, rfl, z⟩, fun x H' y => ?_⟩
    obtain ⟨e1, e2⟩ := P.yld i H x H' S hlt y
    subst e1 e2
    refine hg i H' _ hlt S ⟨hw i, ht i H' _ hlt S fun H2 S2 => ?_⟩
    by_cases hp : p i = true
    · rw [if_pos hp]
      refine hs i H2 _ hlt hp (S.trans S2) fun H3 S3 => hv i H3 _ hlt hp ((S.trans S2).trans S3) fun H4 S4 => ⟨_, kf i, rfl, S4 _ _ (S3 _ _ (S2 _ _ eD)), ?_, hlt, Same.mut (((S.trans S2).trans S3).trans S4) hD, ?_⟩
      · have := List.length_filter_le p (List.range i)
        rw [List.length_range] at this
        rw [List.length_map]; omega
      · rw [upd_same, putK_new, List.range_succ, List.filter_append, List.map_append]
        · simp [hp]
        · unfold valV
          rw [List.find?_eq_none.mpr]
          · rfl
          · intro kv hkv
            obtain ⟨q, hq, rfl⟩ := List.mem_map.mp hkv
            have := List.mem_range.mp (List.mem_filter.mp hq).1
            simpa using hk q i this hlt
    · rw [if_neg hp]
      refine ⟨hlt, S.trans S2, ?_⟩
      rw [S2 _ _ eD, List.range_succ, List.filter_append, List.map_append]
      simp [hp]
  · have e : i = n := by omega
    subst e
    exact .inl ⟨P.stop H S, hd H S eD⟩
end
/-- known letters as the comprehension makes them -/
theorem knownL_kv (f : Nat → Nat) (ls : List (Nat × Nat)) (n : Nat) : kvM (knownL f ls n) = ((List.range n).filter fun k => (gL ls (f k)).isSome).map fun k => ((Sum.inl ((k : Nat) : Int) : Key), V.str ⟨#[(gL ls (f k)).getD 0]⟩) := by
  unfold knownL kvM
  rw [List.map_filterMap]
  induction (List.range n) with
  | nil => rfl
  | cons k r ih =>
    rw [List.filterMap_cons, List.filter_cons]
    cases e : gL ls (f k) with
    | none => simpa using ih
    | some c =>
      simp only [Option.map_some, Option.isSome_some, if_true, List.map_cons, e, Option.getD_some]
      rw [ih]
/-- keys are written in their order -/
theorem fstP_lt : ∀ (ss : List Stp) (n : Nat), okFrom n ss → ∀ j k, j < k → k < (tyL ss).length → fstP ss j < fstP ss k
  | [], _, _, j, k, _, hk => absurd hk (by simp [tyL])
  | .wr w :: r, n, ok, j, k, hjk, hk => by
    have hl : (tyL (.wr w :: r)).length = w.length + (tyL r).length := by
      rw [show tyL (.wr w :: r) = ty1 (.wr w) ++ tyL r from rfl, List.length_append]; rfl
    rw [hl] at hk
    show (if j < w.length then j else _) < (if k < w.length then k else _)
    by_cases h1 : k < w.length
    · rw [if_pos h1, if_pos (by omega)]; exact hjk
    · rw [if_neg h1]
      by_cases h2 : j < w.length
      · rw [if_pos h2]; omega
      · rw [if_neg h2]
        have := fstP_lt r _ ok.2.2 (j - w.length) (k - w.length) (by omega) (by omega)
        omega
  | .pa f l t :: r, n, ok, j, k, hjk, hk => by
    have := fstP_lt r _ ok.2.2 j k hjk (by simpa [tyL, ty1] using hk)
    show (l + 1 - f) * t + fstP r j < (l + 1 - f) * t + fstP r k
    omega
theorem openH_asc (f : Nat → Nat) (ls : List (Nat × Nat)) (n : Nat) : (openH f ls n).Pairwise (· < ·) := List.Pairwise.filter _ List.pairwise_lt_range
theorem openH_lt {f : Nat → Nat} {ls : List (Nat × Nat)} {n k : Nat} (h : k ∈ openH f ls n) : k < n := List.mem_range.mp (List.mem_filter.mp h).1
theorem pw_map {p : Nat → Nat} {n : Nat} : ∀ {L : List Nat}, L.Pairwise (· < ·) → (∀ x ∈ L, x < n) → (∀ j k, j < k → k < n → p j < p k) → (L.map p).Pairwise (· < ·)
  | [], _, _, _ => List.Pairwise.nil
  | a :: L, h, hn, hp => by
    obtain ⟨h1, h2⟩ := List.pairwise_cons.mp h
    rw [List.map_cons, List.pairwise_cons]
    exact ⟨fun b hb => by
      obtain ⟨x, hx, rfl⟩ := List.mem_map.mp hb
      exact hp _ _ (h1 x hx) (hn x (List.mem_cons_of_mem _ hx)), pw_map h2 (fun x hx => hn x (List.mem_cons_of_mem _ hx)) hp⟩
section
variable {K : PySem.W.Frag} {CT CP CE CK C : Addr} {H H' : Hp} {x h d l p : Addr} {ss : List Stp} {f : Nat → Nat} {ls : List (Nat × Nat)} {ob : List Obs} {i : RdI} {Q : VK} {E : XK} {m : Str} {P : Prop} {k c : Nat} {L : List Nat}
theorem rd_insRd (r : RdAt K CT CP CK H x h d ss f ls ob i) (hm : m ≠ "source_text" ∧ m ≠ "heads" ∧ m ≠ "letters" ∧ m ≠ "seen") (q : P) : InsM H x CK m ∧ P := ⟨⟨_, _, r.ins, rdF_no hm⟩, q⟩
theorem rd_rdHead (r : RdAt K CT CP CK H x h d ss f ls ob i) (hk : k < (tyL ss).length) (q : Q (.int (f k : Nat)) H) : sp_KeyReader_head K CT CP CK [.ref x, .int (k : Nat)] H Q E := ⟨x, h, d, ss, f, ls, ob, k, rfl, ⟨i, r⟩, hk, q⟩
theorem kvM_dget (e : H d = some (.dK (kvM ls))) (k : Nat) : DGet H d (.int (k : Nat)) ((gL ls k).map fun c => V.str ⟨#[c]⟩) := by
  have := DGet.k (k := (Sum.inl ((k : Nat) : Int) : Key)) e
  rwa [kvM_val] at this
theorem kvM_dput (e : H d = some (.dK (kvM ls))) (hl : ls.length < 16777216) (k c : Nat) : DPut H d (.int (k : Nat)) (.str ⟨#[c]⟩) (upd H d (.dK (kvM (putL ls k c)))) := by
  have := DPut.k (k := (Sum.inl ((k : Nat) : Int) : Key)) (v := .str ⟨#[c]⟩) e (by unfold kvM; rw [List.length_map, sizeLine_eq]; exact hl)
  rwa [kvM_put] at this
theorem RdAt.ok (r : RdAt K CT CP CK H x h d ss f ls ob i) : (tyL ss).length ≤ 600 := by
  have h1 := tyL_small r.tx.ok
  have h2 := r.tx.few
  omega
theorem RdAt.spec (r : RdAt K CT CP CK H x h d ss f ls ob i) (hk : k < (tyL ss).length) : f k ≤ k ∧ i.hs[f k]?.getD 0 = f k ∧ f (f k) = f k := r.rt.spec k (by rw [r.len]; exact hk)
/-- the dict changes -/
theorem RdAt.put (r : RdAt K CT CP CK H x h d ss f ls ob i) (hT : CT ≠ CK) (hP : CP ≠ CK) (hk : k < (tyL ss).length) (h1 : 97 ≤ c) (h2 : c ≤ 122) : RdAt K CT CP CK (upd H d (.dK (kvM (putL ls k c)))) x h d ss f (putL ls k c) ob i := by
  have ne : ∀ {b o}, H b = some o → (∀ kvs, o ≠ .dK kvs) → b ≠ d := fun {b o} e n z => by subst z; rw [r.dl] at e; cases e; exact n _ rfl
  have B : But d H (upd H d (.dK (kvM (putL ls k c)))) := But.at But.refl
  have kh : Kh CK H (upd H d (.dK (kvM (putL ls k c)))) := fun b o _ n2 _ e => B b o (ne e n2) e
  exact ⟨B _ _ (ne r.ins fun _ z => nomatch z) r.ins, r.tx.kh hT hP kh, B _ _ (ne r.hl fun _ z => nomatch z) r.hl, upd_same, kh.tup r.sn, r.obs.kh kh, r.rt, r.len, r.lok.put hk h1 h2⟩
theorem rd_sortNatN {M : List Nat} (h : H l = some (.lst (natV M))) (hm : M.Pairwise (· < ·)) (q : ∀ p H', Same H H' → H p = none → H' p = some (.lst (natV M)) → Q (.ref p) H') : rSortedI K [.ref l] H Q := by
  refine ⟨l, M.map fun m => ((m : Nat) : Int), rfl, SqL.of (by rw [h, natV_ints]), fun ns p hpn hr hn => ?_⟩
  have e : ns = M.map fun m => ((m : Nat) : Int) := by
    have hM : (M.map fun m => ((m : Nat) : Int)).Pairwise (· < ·) := List.pairwise_map.mpr (hm.imp fun h => by omega)
    have nd : ns.Nodup := hpn.nodup_iff.mpr (hM.imp fun h => by omega)
    exact rising_unique (lt := fun a b : Int => a < b) (fun a => by omega) (fun a b c => by omega) ((hr.and nd).imp fun h => by omega) hM fun x => hpn.mem_iff
  rw [e, ← natV_ints]
  exact q p _ (Same.new (Same.refl _) hn) hn upd_same
theorem Same.back {H1 : Hp} {a : Addr} (S : Same H H1) (h : H1 a = none) : H a = none := by
  cases e : H a with
  | none => rfl
  | some o => rw [S _ _ e] at h; cases h
/-- the row of observations changes -/
theorem RdAt.seen {s : Addr} {ms : List V} {ob' : List Obs} (r : RdAt K CT CP CK H x h d ss f ls ob i) (hT : CT ≠ CK) (hP : CP ≠ CK) (b : But x H H') (e : H' x = some (.ins CK i.dx (rdF (.ref i.t) (.ref h) (.ref d) (.ref s)))) (hq : SqT K H s ms) (ho : ObsAt K H ms ob') :
    RdAt K CT CP CK H' x h d ss f ls ob' { i with s := s, sm := ms } := by
  have km : Km CK [] H H' := Km.but b r.ins
  exact ⟨e, r.tx.km hT hP km, km.li nr_natV r.hl, km.keep _ _ id (fun _ z => nomatch z) (fun _ _ z => nomatch z) r.dl, km.tup hq, ⟨ho.1, fun j o q => let ⟨b, e, g⟩ := ho.2 j o q; ⟨b, e, km.tup g⟩⟩, r.rt, r.len, r.lok⟩
end
end L2.Px
set_option Elab.async false
set_option linter.all false
set_option maxRecDepth 100000
set_option maxHeartbeats 2000000
namespace L2.Px
open PySem PySem.Spec PyProof.Rows StX LamX
section
variable {X : Cx} {p1 p2 : Pos} {i k : Nat} {a : Str}
/-- a(), a the block's own name, a lambda of the def: σ0 are the def's slots at the block's start -/
def tActB (X : Cx) (k i : Nat) (σ0 : St) : TE := fun σ H Q => ∃ f t, σ[i]? = some (some (.ref f)) ∧ IsLam X k t f H ∧ t E0 σ0 H Q
theorem pe_actB {σ0 : St} {s0 : Shared} {H0 : Hp} {scopeB : Scope} {cenv : Env} {fp : List Addr} (MI : Maker X σ0 s0 H0 fp) (hr : Room (k + 1) X.A) (hN : X.N[i]? = some a) (hv : Vis scopeB a)
    (hs : (X.blk s0 H0 scopeB cenv fp).env.scope = scopeB := by rfl) (hd : (a == ("__debug__" : Str)) = false := by decide) (hcd : (a == ("__classdict__" : Str)) = false := by decide) :
    PE (X.blk s0 H0 scopeB cenv fp) (.Call (.Name a p1) [] [] p2) (tActB X k i σ0) := by
  obtain ⟨pins0, I0, hfp⟩ := MI
  refine ⟨fun pinsZ sZ σZ HZ Q IZ ⟨f, t, hs', hl, ht⟩ => ?_⟩
  refine wpAny_Call_Name_kw (thn ((pe_var (X := X.blk s0 H0 scopeB cenv fp) (pos := p1) hN (by rw [hs]; exact hv) hd hcd).run pinsZ sZ σZ HZ (fun v H1 => v = .ref f ∧ H1 = HZ) IZ ⟨.ref f, hs', rfl, rfl⟩) fun u s1 ⟨v, H1, I1, r1, ev, eH⟩ => ?_)
  subst ev
  rw [eH] at I1
  obtain rfl : u = Value.ref f := r1
  obtain ⟨params, body, scope, dV, bs, c', L, e1, e2, hb, hbody⟩ := hl
  obtain ⟨⟨doc, pm, ctv, of1⟩, _, _⟩ := I1.hok f _ e1
  obtain ⟨⟨oc, vs, tq, hoc, hdc, hvc⟩, _, _⟩ := I1.hok c' _ e2
  refine PySem.W.callWith_F0 ⟨_, _, _, _, of1⟩ ?_
  obtain ⟨bn, bin, bto⟩ := hb.binds (s := s1) (q := X.env.qual ++ "<lambda>") (cl := cloFrom X.env.cells scope.names []) (doc := doc) (pm := pm) (cv := .ref c') (ctv := ctv) fun T xs e => let ⟨its, rv, p, _⟩ := I1.tuple (SqT.of e); ⟨its, rv, p⟩
  have un1 : Un (frs X.stack) fp H0 HZ s0.heap s1.heap := I1.base
  have rc : codeAny (model X.prog X.w) X.A (.call (.ref f) ⟨[], []⟩) (CR (L2.CX X.prog X.w) X.stack X.prog X.w HZ s1 Q E0) s1 := by
    refine PySem.W.kla_callFunE hr.depth of1 rfl L.co L.gen rfl ⟨c', oc, vs, tq, rfl, hoc, hdc, hvc⟩ (bto _ _ _ _ ?_)
    refine wpAny_newFunctionEnv (fun y hy => (L.own y hy).1) (fun y hy => L.par _ (bin y hy)) (fun h₁ hns hsb => ⟨I1.nolimit.fresh _ hsb, ?_⟩) L.kind
    have kp : ∀ b o, s1.heap.get? b = some o → h₁.get? b = some o := fun b o e => hsb.extBut b o (Nat.ne_of_lt (Heap.lt_size e)) (Heap.get?_push_of_some _ e)
    have J : Inv (lamCx X X.A X.stack s1 HZ E0 scope f c') [] σ0 HZ { s1 with heap := h₁, toks := s1.toks + bn.length } :=
      lam_enter I0 L I1.env0 hr.hd (fun y c e ob ho n => ⟨un1.any ho n (hfp y c e), un1.free c ob ho n (hfp y c e)⟩) hns kp
    refine PySem.W.kla_codeExpr (wpAny_mono ((hbody X.A X.stack s1 HZ E0 (hr.deeper _)).run [] _ _ HZ Q J ht) (fun v s' ⟨w', H', J', rv, q⟩ => ?_) fun e s' hq => hq)
    exact ⟨w', H', J'.os, J'.bare, J'.base, J'.hok, rv, q⟩
  refine wpAny_call (codeAny_mono rc fun r s' hq => ?_)
  match r, hq with
  | .error e, hq =>
    obtain ⟨a, B, H', cls, d, _, _, _, _, _, _, _, hE⟩ := (show L2.CX _ _ _ _ _ _ _ _ from hq)
    exact hE.elim
  | .ok (.ret u), hq => exact I1.after hq
  | .ok .next, hq => exact hq.elim
  | .ok .brk, hq => exact hq.elim
  | .ok .cont, hq => exact hq.elim
end
end L2.Px
set_option Elab.async false
set_option linter.all false
set_option maxRecDepth 100000
set_option maxHeartbeats 1000000
namespace L2.Px
open PySem PySem.Spec PyProof.Rows StX
end L2.Px
set_option Elab.async false
set_option linter.all false
set_option maxRecDepth 100000
set_option maxHeartbeats 1000000
namespace L2.Px
open PySem PySem.Spec PyProof.Rows StX TL
section
variable (K : PySem.W.Frag)
def sp_x_law_dice : Sp := fun vs H Q _ => ∃ (a : Addr) (sc : List Int), vs = [.ref a] ∧ SqL K H a (sc.map V.int) ∧ ∀ r H', Same H H' → H r = none → RowAt K H' r → Q (.ref r) H'
def sp_x_law_next : Sp := fun vs H Q _ => ∃ (r : Addr) (many : Nat), vs = [.ref r, .int many] ∧ RowAt K H r ∧ 1 ≤ many ∧ many < 4611686018427387904 ∧ ∀ (n : Nat) H', n < many → Kp H H' → RowAt K H' r → Q (.int n) H'
def sp_x_law_pick : Sp := fun vs H Q _ => ∃ (r l : Addr) (xs : List V), vs = [.ref r, .ref l] ∧ RowAt K H r ∧ SqL K H l xs ∧ (SqL K H l xs → ∀ H', Kp H H' → SqL K H' l xs) ∧ 1 ≤ xs.length ∧ xs.length ≤ sizeLine ∧ ∀ (n : Nat) v H', xs[n]? = some v → Kp H H' → RowAt K H' r → Q v H'
def sp_x_law_wordD : Sp := fun vs H Q _ => ∃ (r : Addr), vs = [.ref r] ∧ RowAt K H r ∧ ∀ (w : Str) H', okWord w 4 → Kp H H' → RowAt K H' r → Q (.str w) H'
end
section
variable {K : PySem.W.Frag} {H H' H1 H2 : Hp} {Q : VK} {E : XK} {r l D : Addr} {i : Int} {xs : List V}
theorem rd_dice {a : Addr} {sc : List Int} (h : SqL K H a (sc.map V.int)) (q : ∀ r H', Same H H' → H r = none → RowAt K H' r → Q (.ref r) H') : sp_x_law_dice K [.ref a] H Q E := ⟨a, sc, rfl, h, q⟩
theorem rd_nextD (row : RowAt K H r) (h1 : 1 ≤ i) (h2 : i < 4611686018427387904) (q : ∀ (n : Nat) H', (n : Int) < i → Kp H H' → RowAt K H' r → Q (.int n) H') : sp_x_law_next K [.ref r, .int i] H Q E :=
  ⟨r, i.toNat, by rw [Int.toNat_of_nonneg (by omega)], row, by omega, by omega, fun n H' hn k w => q n H' (by omega) k w⟩
theorem rd_pick (row : RowAt K H r) (h : SqL K H l xs) (nr : ¬ isRow (.lst xs)) (h1 : 1 ≤ xs.length) (h2 : xs.length ≤ 1000) (q : ∀ (n : Nat) v H', xs[n]? = some v → Kp H H' → RowAt K H' r → Q v H') : sp_x_law_pick K [.ref r, .ref l] H Q E :=
  ⟨r, l, xs, rfl, row, h, fun h H' k => k.lst nr h, h1, by rw [sizeLine_eq]; omega, q⟩
theorem rd_wordD (row : RowAt K H r) (q : ∀ (w : Str) H', okWord w 4 → Kp H H' → RowAt K H' r → Q (.str w) H') : sp_x_law_wordD K [.ref r] H Q E := ⟨r, rfl, row, q⟩
theorem RowAt.via (h1 : RowAt K H1 r) (k : Kp H1 H2) (h : RowAt K H' r) (e : H2 r = H' r) : RowAt K H2 r := by
  obtain ⟨sa, sc, i, s, n, a, b⟩ := h1.ex
  obtain ⟨i', s', n', a2⟩ := k.rows r sa i s n a
  obtain ⟨sa2, sc2, i2, s2, n2, c, d⟩ := h.ex
  rw [← e, a2] at c
  cases c
  exact ⟨sa, sc, i2, s', n', a2, k.lst nr_ints b⟩
theorem RowAt.ne (h : RowAt K H r) (hD : H D = none) : r ≠ D := fun z => by
  subst z
  obtain ⟨sa, sc, i, s, n, a, b⟩ := h.ex
  rw [hD] at a; cases a
end
section
variable {K : PySem.W.Frag} {J : It} {n : Nat} {it : Nat → V} {H1 : Hp} {te : TE} {vs : List Nat} {σ : St} {D r : Addr} {Qd : Hp → Prop} {j : Nat}
/-- [draw for x in range] -/
theorem lc_draw {α : Type} (f : α → V) (hf : ∀ a, isRef (f a) = false) (P : ∀ H, Plain J n it H) (hD : H1 D = none) (hn : n ≤ sizeLine) (hj : ∀ v, wipe ((wipe σ vs).set j (some v)) vs = wipe σ vs) (row : RowAt K H1 r) (Rs : α → Prop)
    (hs : ∀ i H (Q : VK), i < n → Kp H1 H → RowAt K H r → (∀ (s : α) H', Rs s → Kp H H' → RowAt K H' r → Q (f s) H') → te ((wipe σ vs).set j (some (it i))) H Q)
    (hd : ∀ H (ss : List α), Kp H1 H → RowAt K H r → H D = some (.lst (ss.map f)) → ss.length = n → (∀ s ∈ ss, Rs s) → Qd H) : LcW J (gName j) tYes te vs σ H1 D Qd := by
  have nD := row.ne hD
  have nr : ∀ {ss : List α}, ¬ isRow (.lst (ss.map f)) := fun {ss} => nr_vals fun v hv => by obtain ⟨i, _, rfl⟩ := List.mem_map.mp hv; exact hf i
  have k0 : Kp H1 (upd H1 D (.lst [])) := Kp.new Kp.refl hD
  refine ⟨fun i m H => m = n - i ∧ i ≤ n ∧ Kp H1 H ∧ RowAt K H r ∧ ∃ ss : List α, H D = some (.lst (ss.map f)) ∧ ss.length = i ∧ ∀ s ∈ ss, Rs s, ⟨_, rfl, Nat.zero_le _, k0, row.via k0 row (upd_ne nD), [], upd_same, rfl, fun s hs => by cases hs⟩, ?_⟩
  rintro i m H ⟨rfl, hi, k, rw1, ss, eD, hl, hr⟩
  by_cases hlt : i < n
  · refine .inr ⟨(P H).go i H (Same.refl _) hlt, fun H' => i + 1 ≤ n ∧ Kp H1 H' ∧ RowAt K H' r ∧ ∃ ss : List α, H' D = some (.lst (ss.map f)) ∧ ss.length = i + 1 ∧ ∀ s ∈ ss, Rs s, fun H' z => ⟨n - (i + 1), by omega, rfl, z⟩, fun x H' y => ?_⟩
    obtain ⟨e1, e2⟩ := (P H).yld i H x H' (Same.refl _) hlt y
    subst e1 e2
    refine ⟨hj _, ?_⟩
    refine rd_yes (iteT ?_)
    refine hs i H' _ hlt k rw1 fun s H2 h2 k2 row2 => ?_
    have k3 : Kp H1 (upd H2 D (.lst ((ss ++ [s]).map f))) := Kp.mut (k.trans k2) hD
    refine ⟨ss.map f, k2 _ _ nr eD, by rw [List.length_map]; omega, hlt, ?_⟩
    rw [show ss.map f ++ [f s] = (ss ++ [s]).map f by simp]
    exact ⟨k3, row.via k3 row2 (upd_ne nD), ss ++ [s], upd_same, by simp [hl], fun t ht => by
      rcases List.mem_append.mp ht with ht | ht
      · exact hr t ht
      · rw [List.mem_singleton.mp ht]; exact h2⟩
  · have e : i = n := by omega
    subst e
    exact .inl ⟨(P H).stop H (Same.refl _), hd H ss k rw1 eD hl hr⟩
end
end L2.Px
set_option Elab.async false
set_option linter.all false
set_option maxRecDepth 100000
set_option maxHeartbeats 1000000
namespace L2.Px
open PySem PySem.Spec PyProof.Rows StX TL
section
variable {K : PySem.W.Frag} {CIS CTL CIP CIL CT CP CE : Addr} {H H' : Hp} {Q : VK} {E : XK} {e t l : Addr} {ss tt : List Stp} {ds us d' u' : List Ent} {en : Ent} {ms rs : List V} {os : List Op} {p c : Nat} {w : Str} {f z n : Nat}
theorem OpsAt.steps (h : StepsAt K H ms ss) : OpsAt K H ms (ss.map .st) := by
  refine ⟨by rw [List.length_map]; exact h.1, fun j o hj => ?_⟩
  rw [List.getElem?_map] at hj
  cases hs : ss[j]? with
  | none => rw [hs] at hj; cases hj
  | some s =>
    rw [hs] at hj; cases hj
    obtain ⟨v, a, b, c, d⟩ := h.2 j s hs
    exact ⟨v, a, b, c, d⟩
theorem OpsAt.nil : OpsAt K H [] [] := ⟨rfl, fun _ _ h => by simp at h⟩
theorem rd_edPT (h : EdAt K CT CP CE H e ss ds us) (q : ∀ a, TX K CT CP H a ss → Q (.ref a) H) : ∃ a' dx fs, V.ref e = .ref a' ∧ H a' = some (.ins CE dx fs) ∧ sp_Editor_present_text K CT CP CE [.ref a'] H Q E := by
  obtain ⟨i, ed, _⟩ := id h
  exact ⟨e, _, _, rfl, ed.ins, e, ss, ds, us, rfl, h, q⟩
theorem rd_edHist (h : EdAt K CT CP CE H e ss ds us) (hd : ds.length ≤ 10000) (q : ∀ H' l ms, Same H H' → H l = none → H' l = some (.lst ms) → OpsAt K H' ms (ds.map (·.o)) → Q (.ref l) H') : ∃ a' dx fs, V.ref e = .ref a' ∧ H a' = some (.ins CE dx fs) ∧ sp_Editor_history K CT CP CE [.ref a'] H Q E := by
  obtain ⟨i, ed, _⟩ := id h
  exact ⟨e, _, _, rfl, ed.ins, e, ss, ds, us, rfl, h, hd, q⟩
end
end L2.Px
set_option Elab.async false
set_option linter.all false
set_option maxRecDepth 100000
set_option maxHeartbeats 1000000
namespace L2.Px
open PySem PySem.Spec PyProof.Rows StX TL
/-- a step typed as a, b, c, z -/
def okL1 (s : Stp) : Prop := ∀ c ∈ ty1 s, c = 97 ∨ c = 98 ∨ c = 99 ∨ c = 122
section
variable (K : PySem.W.Frag) (CT CP CE : Addr)
def sp_x_law_drawn : Sp := fun vs H Q _ => ∃ (r : Addr) (tot most : Nat), vs = [.ref r, .int tot, .int most] ∧ RowAt K H r ∧ tot ≤ 1000000000000000000 ∧ 1 ≤ most ∧ most ≤ 1000000000 ∧
  ∀ p v s H', Kp H H' → RowAt K H' r → H' p = some (.tup [v, .int (tot + len1 s : Nat)]) → StepAt K H' v s → okStep tot s → len1 s ≤ 6 * most → okL1 s → Q (.ref p) H'
def sp_x_law_some : Sp := fun vs H Q _ => ∃ (r : Addr) (count most : Nat), vs = [.ref r, .int count, .int most] ∧ RowAt K H r ∧ count ≤ 20 ∧ 1 ≤ most ∧ most ≤ 1000000000 ∧
  ∀ l ms ss H', Kp H H' → RowAt K H' r → H' l = some (.lst ms) → StepsAt K H' ms ss → okFrom 0 ss → 1 ≤ sz ss → ss.length ≤ count + 1 → sz ss ≤ (count + 1) * (6 * most) → okLs ss → Q (.ref l) H'
def sp_x_law_made : Sp := fun vs H Q _ => ∃ (a : Addr) (ms : List V) (ss : List Stp), vs = [.ref a] ∧ SqL K H a ms ∧ StepsAt K H ms ss ∧ okFrom 0 ss ∧ ss.length ≤ 30 ∧
  ∀ p H', Same H H' → TX K CT CP H' p ss → Q (.ref p) H'
end
section
variable (K : PySem.W.Frag) (CT CP CE : Addr)
def sp_Editor_apply0 : Sp := fun vs H Q _ => ∃ e m ss ds us, vs = [.ref e, .ref m] ∧ EdAt K CT CP CE H e ss ds us ∧ SqT K H m [] ∧ ∀ H' l, Same H H' → H' l = some (.lst []) → Q (.ref l) H'
def sp_Editor_replay0 : Sp := fun vs H Q _ => ∃ t rs ss l, vs = [.ref CE, .ref t, .ref l] ∧ SqT K H t rs ∧ StepsAt K H rs ss ∧ okFrom 0 ss ∧ ss.length ≤ 30 ∧ (SqT K H l [] ∨ SqL K H l []) ∧ ∀ H' e, Same H H' → H e = none → EdAt K CT CP CE H' e ss [] [] → Q (.ref e) H'
end
theorem okLs.nil : okLs [] := fun c h => by cases h
theorem okLs.snoc {ss : List Stp} {s : Stp} (h : okLs ss) (g : okL1 s) : okLs (ss ++ [s]) := fun c hc => by
  rw [tyL_append] at hc
  rcases List.mem_append.mp hc with hc | hc
  · exact h c hc
  · exact g c (by simpa [tyL] using hc)
theorem okL1.wr {x : Str} {m : Nat} (hx : okWord x m) : okL1 (.wr x) := fun c hc => hx.2.2 c hc
theorem okL1.pa {f l t : Nat} : okL1 (.pa f l t) := fun c hc => by cases hc
theorem StepAt.wrN {K : PySem.W.Frag} {H : Hp} {p : Addr} {x : Str} (e : H p = some (.tup [.str "write", .str x])) : StepAt K H (.ref p) (.wr x) := ⟨p, rfl, SqT.of e⟩
theorem StepAt.paN {K : PySem.W.Frag} {H : Hp} {p : Addr} {f l t : Nat} (e : H p = some (.tup [.str "paste", .int (f : Nat), .int (l : Nat), .int (t : Nat)])) : StepAt K H (.ref p) (.pa f l t) := ⟨p, rfl, SqT.of e⟩
section
variable {K : PySem.W.Frag} {CT CP CE : Addr} {H H' : Hp} {Q : VK} {E : XK} {r l a : Addr} {i j : Int} {ms : List V} {ss : List Stp}
theorem rd_drawn (row : RowAt K H r) (h0 : 0 ≤ i) (h1 : i ≤ 1000000000000000000) (h2 : 1 ≤ j) (h3 : j ≤ 1000000000)
    (q : ∀ p v s H', Kp H H' → RowAt K H' r → H' p = some (.tup [v, .int (i + (len1 s : Nat))]) → StepAt K H' v s → okStep i.toNat s → (len1 s : Int) ≤ 6 * j → okL1 s → Q (.ref p) H') : sp_x_law_drawn K [.ref r, .int i, .int j] H Q E := by
  obtain ⟨n, rfl⟩ : ∃ n : Nat, i = n := ⟨i.toNat, by omega⟩
  obtain ⟨m, rfl⟩ : ∃ m : Nat, j = m := ⟨j.toNat, by omega⟩
  refine ⟨r, n, m, rfl, row, by omega, by omega, by omega, fun p v s H' k rw' e sa ok le lt => q p v s H' k rw' ?_ sa ok (by omega) lt⟩
  rw [e]; simp
theorem rd_some (row : RowAt K H r) (h0 : 0 ≤ i) (h1 : i ≤ 20) (h2 : 1 ≤ j) (h3 : j ≤ 1000000000)
    (q : ∀ l ms ss H', Kp H H' → RowAt K H' r → H' l = some (.lst ms) → StepsAt K H' ms ss → okFrom 0 ss → 1 ≤ sz ss → (ss.length : Int) ≤ i + 1 → (sz ss : Int) ≤ (i + 1) * (6 * j) → okLs ss → Q (.ref l) H') : sp_x_law_some K [.ref r, .int i, .int j] H Q E := by
  obtain ⟨n, rfl⟩ : ∃ n : Nat, i = n := ⟨i.toNat, by omega⟩
  obtain ⟨m, rfl⟩ : ∃ m : Nat, j = m := ⟨j.toNat, by omega⟩
  exact ⟨r, n, m, rfl, row, by omega, by omega, by omega, fun l ms ss H' k rw' e sa ok h1 h2 h3 hl => q l ms ss H' k rw' e sa ok h1 (by omega) (by exact_mod_cast h3) hl⟩
theorem rd_edRep0 {t l : Addr} (ht : TS' K H t ss) (hl : H l = some (.lst [])) (ok : okFrom 0 ss) (few : ss.length ≤ 30)
    (q : ∀ H' e, Same H H' → H e = none → EdAt K CT CP CE H' e ss [] [] → Q (.ref e) H') : sp_Editor_replay0 K CT CP CE [.ref CE, .ref t, .ref l] H Q E :=
  let ⟨rs, h1, h2⟩ := ht
  ⟨t, rs, ss, l, rfl, h1, h2, ok, few, .inr (SqL.of hl), q⟩
theorem rd_tupLS (h : SqL K H l ms) (hs : StepsAt K H ms ss) (q : ∀ p H', Same H H' → TS' K H' p ss → Q (.ref p) H') : rTupA K [.ref l] H Q := rd_tupleL h fun p H' S n e => q p H' S ⟨ms, SqT.of e, hs.mono S⟩
theorem rd_made (h : SqL K H a ms) (hs : StepsAt K H ms ss) (ok : okFrom 0 ss) (few : ss.length ≤ 30) (q : ∀ p H', Same H H' → TX K CT CP H' p ss → Q (.ref p) H') : sp_x_law_made K CT CP [.ref a] H Q E :=
  ⟨a, ms, ss, rfl, h, hs, ok, few, q⟩
end
theorem pick_abcz {n : Nat} {v : V} (h : [V.str "a", V.str "b", V.str "c", V.str "z"][n]? = some v) : ∃ c : Nat, v = .str ⟨#[c]⟩ ∧ (c = 97 ∨ c = 98 ∨ c = 99 ∨ c = 122) := by
  match n, h with
  | 0, h => cases h; exact ⟨97, congrArg V.str (by decide +kernel), by decide⟩
  | 1, h => cases h; exact ⟨98, congrArg V.str (by decide +kernel), by decide⟩
  | 2, h => cases h; exact ⟨99, congrArg V.str (by decide +kernel), by decide⟩
  | 3, h => cases h; exact ⟨122, congrArg V.str (by decide +kernel), by decide⟩
  | n + 4, h => simp at h
section
variable {K : PySem.W.Frag} {H : Hp} {l a : Addr} {xs ys ms : List V} {ss : List Stp} {o : HO}
theorem SqT.updL (h : SqT K H a xs) (e : H l = some (.lst ys)) : SqT K (upd H l o) a xs := by
  rcases h with (h | ⟨u, h⟩) | h
  · exact .inl (.inl (by rw [upd_ne fun z => by subst z; rw [e] at h; cases h]; exact h))
  · exact .inl (.inr ⟨u, by rw [upd_ne fun z => by subst z; rw [e] at h; cases h]; exact h⟩)
  · exact .inr h
theorem StepsAt.updL (h : StepsAt K H ms ss) (e : H l = some (.lst ys)) : StepsAt K (upd H l o) ms ss := ⟨h.1, fun j s q => let ⟨v, a, b, c, d⟩ := h.2 j s q; ⟨v, a, b, c, SqT.updL d e⟩⟩
theorem StepAt.updL {v : V} {s : Stp} (h : StepAt K H v s) (e : H l = some (.lst ys)) : StepAt K (upd H l o) v s := let ⟨b, c, d⟩ := h; ⟨b, c, SqT.updL d e⟩
end
end L2.Px
set_option Elab.async false
set_option linter.all false
set_option maxRecDepth 100000
set_option maxHeartbeats 2000000
namespace L2.Px
open PySem PySem.Spec PyProof.Rows StX ClX LamX
def toW : List Str := ["InvalidStep", "InvalidOperation", "DecodeError", "NotationError", "TooLong", "InvalidPlace", "InvalidLetter", "Contradiction", "InvalidCount"]
/-- what _law_told answers of the exception of the class cls, its dict d -/
def ToAns (K : PySem.W.Frag) (CT : Addr) (Cs : List Addr) (cls : Value) (d : Option Addr) (H : Hp) (Q : VK) : Prop := ∃ (i : Nat) (D : Addr) (w : Str), cls = .ref D ∧ RzC K CT Cs i D ∧ toW[i]? = some w ∧
  ((i < 2 ∧ RzF K D "index" ∧ ∃ (dd : Addr) (n : Int) (fs : List (Str × V)), d = some dd ∧ H dd = some (.xd fs) ∧ fs.lookup ("index" : Str) = some (.int n) ∧ ∀ p H', Same H H' → H' p = some (.tup [.str "error", .str w, .int n]) → Q (.ref p) H') ∨
    (i = 2 ∧ RzF K D "offset" ∧ ∃ (dd : Addr) (n : Int) (fs : List (Str × V)), d = some dd ∧ H dd = some (.xd fs) ∧ fs.lookup ("offset" : Str) = some (.int n) ∧ ∀ p H', Same H H' → H' p = some (.tup [.str "error", .str w, .int n]) → Q (.ref p) H') ∨
    (i = 3 ∧ RzF K D "row" ∧ RzF K D "word" ∧ ∃ (dd : Addr) (n m : V) (fs : List (Str × V)), d = some dd ∧ H dd = some (.xd fs) ∧ fs.lookup ("row" : Str) = some n ∧ fs.lookup ("word" : Str) = some m ∧ ∀ p H', Same H H' → H' p = some (.tup [.str "error", .str w, n, m]) → Q (.ref p) H') ∨
    (4 ≤ i ∧ d = none ∧ ∀ p H', Same H H' → H' p = some (.tup [.str "error", .str w]) → Q (.ref p) H'))
theorem ToAns.dict {K : PySem.W.Frag} {CT : Addr} {Cs : List Addr} {cls : Value} {d : Option Addr} {H : Hp} {Q : VK} (h : ToAns K CT Cs cls d H Q) : d = none ∨ ∃ dd fs, d = some dd ∧ H dd = some (.xd fs) := by
  obtain ⟨i, D, w, _, _, _, ⟨_, _, dd, n, fs, e, hx, _⟩ | ⟨_, _, dd, n, fs, e, hx, _⟩ | ⟨_, _, _, dd, n, m, fs, e, hx, _⟩ | ⟨_, e, _⟩⟩ := h
  · exact .inr ⟨dd, fs, e, hx⟩
  · exact .inr ⟨dd, fs, e, hx⟩
  · exact .inr ⟨dd, fs, e, hx⟩
  · exact .inl e
end L2.Px
set_option Elab.async false
set_option linter.all false
set_option maxRecDepth 100000
set_option maxHeartbeats 4000000
namespace L2.Px
open PySem PySem.Spec PyProof.Rows PySem.Froz
end L2.Px
set_option Elab.async false
set_option linter.all false
set_option maxRecDepth 100000
set_option maxHeartbeats 2000000
namespace L2.Px
open PySem PySem.Spec PyProof.Rows StX TL
end L2.Px
namespace L2.Px
open PySem PySem.Spec PyProof.Rows StX TL
end L2.Px
namespace L2.Px
open PySem PySem.Spec PyProof.Rows StX TL
end L2.Px
set_option Elab.async false
set_option linter.all false
set_option maxRecDepth 100000
set_option maxHeartbeats 2000000
namespace L2.Px
open PySem PySem.Spec PyProof.Rows StX TL
/-- the list at l holds lists, all of them new since H0 -/
structure ClsN (H0 H : Hp) (l : Addr) (cs : List (List Nat)) : Prop where
  new : H0 l = none
  at_ : ∃ as : List Addr, H l = some (.lst (as.map V.ref)) ∧ as.length = cs.length ∧ ∀ (i : Nat) c, cs[i]? = some c → ∃ a, as[i]? = some a ∧ H a = some (.lst (natV c)) ∧ H0 a = none
section
variable {K : PySem.W.Frag} {CI CT CP : Addr} {H H' H0 H1 : Hp} {a b l r p D : Addr} {L M : List Nat} {Q : VK} {E : XK} {cs : List (List Nat)} {n : Nat} {f : Nat → Nat} {cl : Nat → Addr} {i j : Int} {ss tt : List Stp} {ch : List (Nat × Nat)}
theorem ClsN.cls (h : ClsN H0 H l cs) : ClsAt H l cs := let ⟨_, as, e, n, g⟩ := h; ⟨as, e, n, fun i c hc => let ⟨a, x, y, _⟩ := g i c hc; ⟨a, x, y⟩⟩
theorem ClsN.mono (h : ClsN H0 H l cs) (S : Same H H') : ClsN H0 H' l cs := let ⟨z, as, e, n, g⟩ := h; ⟨z, as, S _ _ e, n, fun i c hc => let ⟨a, x, y, w⟩ := g i c hc; ⟨a, x, S _ _ y, w⟩⟩
variable (K CI CT CP)
variable {K CI CT CP}
end
end L2.Px
set_option Elab.async false
set_option linter.all false
set_option maxRecDepth 100000
set_option maxHeartbeats 2000000
namespace L2.Px
open PySem PySem.Spec PyProof.Rows StX TL
/-- a list of these four items could be taken for a row only if its first item is a number -/
def goodL (ds : List PyData) : Prop := ∀ d0 i j k, ds = [d0, .int i, .int j, .int k] → ∃ n, d0 = .int n
/-- v is the data d, to a depth; made of numbers, texts, tuples, lists -/
def Dd (K : PySem.W.Frag) (H : Hp) : Nat → V → PyData → Prop
  | 0, _, _ => False
  | n + 1, v, d => (∃ i, v = .int i ∧ d = .int i) ∨ (∃ x, v = .str x ∧ d = .str x ∧ x.length ≤ sizeLine) ∨
    (∃ a xs ds, v = .ref a ∧ d = .tuple ds ∧ SqT K H a xs ∧ xs.length = ds.length ∧ xs.length ≤ sizeLine ∧ ∀ (i : Nat) x e, xs[i]? = some x → ds[i]? = some e → Dd K H n x e) ∨
    ∃ a xs ds, v = .ref a ∧ d = .list ds ∧ H a = some (.lst xs) ∧ goodL ds ∧ xs.length = ds.length ∧ xs.length ≤ sizeLine ∧ ∀ (i : Nat) x e, xs[i]? = some x → ds[i]? = some e → Dd K H n x e
section
variable {K : PySem.W.Frag} {H H' : Hp} {a b : Addr} {xs : List V} {ds : List PyData} {Q : VK} {E : XK}
theorem Dd.mono (S : Same H H') : ∀ {n : Nat} {v : V} {d : PyData}, Dd K H n v d → Dd K H' n v d
  | 0, _, _, h => h.elim
  | n + 1, _, _, h => by
    rcases h with h | h | ⟨a, xs, ds, h1, h2, h3, h4, h5, h6⟩ | ⟨a, xs, ds, h1, h2, h3, h4, h5, h6, h7⟩
    · exact .inl h
    · exact .inr (.inl h)
    · exact .inr (.inr (.inl ⟨a, xs, ds, h1, h2, Same.tup S h3, h4, h5, fun i x e p q => Dd.mono S (h6 i x e p q)⟩))
    · exact .inr (.inr (.inr ⟨a, xs, ds, h1, h2, S _ _ h3, h4, h5, h6, fun i x e p q => Dd.mono S (h7 i x e p q)⟩))
theorem Dd.ref_no {n : Nat} {i : Int} (h : Dd K H n (.ref a) (.int i)) : False := by
  cases n with
  | zero => exact h
  | succ n => rcases h with ⟨_, z, _⟩ | ⟨_, z, _⟩ | ⟨_, _, _, _, z, _⟩ | ⟨_, _, _, _, z, _⟩ <;> cases z
theorem Dd.int_at {n : Nat} {i : Int} {d : PyData} (h : Dd K H n (.int i) d) : d = .int i := by
  cases n with
  | zero => exact h.elim
  | succ n => rcases h with ⟨_, z, e⟩ | ⟨_, z, _⟩ | ⟨_, _, _, z, _⟩ | ⟨_, _, _, z, _⟩ <;> cases z; exact e
theorem dd_norow {n : Nat} (g : goodL ds) (hl : xs.length = ds.length) (h : ∀ (i : Nat) x e, xs[i]? = some x → ds[i]? = some e → Dd K H n x e) : ¬ isRow (.lst xs) := by
  intro z
  unfold isRow at z
  split at z
  · rename_i e1
    cases e1
    match ds, hl with
    | [d0, d1, d2, d3], _ =>
      have h0 := h 0 _ _ rfl rfl
      have h1 := h 1 _ _ rfl rfl
      have h2 := h 2 _ _ rfl rfl
      have h3 := h 3 _ _ rfl rfl
      have e1 := h1.int_at
      have e2 := h2.int_at
      have e3 := h3.int_at
      subst e1 e2 e3
      obtain ⟨m, rfl⟩ := g _ _ _ _ rfl
      exact h0.ref_no
  · exact z
theorem Dd.kp (k : Kp H H') : ∀ {n : Nat} {v : V} {d : PyData}, Dd K H n v d → Dd K H' n v d
  | 0, _, _, h => h.elim
  | n + 1, _, _, h => by
    rcases h with h | h | ⟨a, xs, ds, h1, h2, h3, h4, h5, h6⟩ | ⟨a, xs, ds, h1, h2, h3, h4, h5, h6, h7⟩
    · exact .inl h
    · exact .inr (.inl h)
    · exact .inr (.inr (.inl ⟨a, xs, ds, h1, h2, k.tup h3, h4, h5, fun i x e p q => Dd.kp k (h6 i x e p q)⟩))
    · exact .inr (.inr (.inr ⟨a, xs, ds, h1, h2, k _ _ (dd_norow h4 h5 h7) h3, h4, h5, h6, fun i x e p q => Dd.kp k (h7 i x e p q)⟩))
end
end L2.Px
set_option Elab.async false
set_option linter.all false
set_option maxRecDepth 100000
set_option maxHeartbeats 2000000
namespace L2.Px
open PySem PySem.Spec PyProof.Rows StX TL
section
variable {K : PySem.W.Frag} {CI CT CP : Addr} {H H' H0 H1 : Hp} {a b l r p D T : Addr} {L M : List Nat} {Q : VK} {E : XK} {cs : List (List Nat)} {n m : Nat} {f : Nat → Nat} {ss tt : List Stp} {ch : List (Nat × Nat)} {v w : V} {d e : PyData} {xs : List V} {ds : List PyData}
theorem Dd.int (i : Int) : Dd K H (n + 1) (.int i) (.int i) := .inl ⟨i, rfl, rfl⟩
theorem Dd.str {x : Str} (h : x.length ≤ sizeLine) : Dd K H (n + 1) (.str x) (.str x) := .inr (.inl ⟨x, rfl, rfl, h⟩)
theorem Dd.lst (h : H l = some (.lst xs)) (g : goodL ds) (hl : xs.length = ds.length) (hz : xs.length ≤ 16777216) (q : ∀ (i : Nat) x e, xs[i]? = some x → ds[i]? = some e → Dd K H n x e) : Dd K H (n + 1) (.ref l) (.list ds) :=
  .inr (.inr (.inr ⟨l, xs, ds, rfl, rfl, h, g, hl, by rw [sizeLine_eq]; exact hz, q⟩))
theorem Dd.tup (h : SqT K H l xs) (hl : xs.length = ds.length) (hz : xs.length ≤ 16777216) (q : ∀ (i : Nat) x e, xs[i]? = some x → ds[i]? = some e → Dd K H n x e) : Dd K H (n + 1) (.ref l) (.tuple ds) :=
  .inr (.inr (.inl ⟨l, xs, ds, rfl, rfl, h, hl, by rw [sizeLine_eq]; exact hz, q⟩))
end
end L2.Px
namespace L2.Px
open PySem PySem.Spec PyProof.Rows StX TL
/-- a new list, not p -/
def FrL (p : Addr) (H0 H : Hp) (l : Addr) : Prop := H0 l = none ∧ l ≠ p ∧ ∃ xs : List V, H l = some (.lst xs) ∧ xs.length ≤ 10000
/-- a new list of new lists -/
def FrC (p : Addr) (H0 H : Hp) (l : Addr) : Prop := FrL p H0 H l ∧ ∃ ms : List Addr, H l = some (.lst (ms.map V.ref)) ∧ ms.length ≤ 10000 ∧ ∀ m ∈ ms, FrL p H0 H m
section
variable {K : PySem.W.Frag} {CI CT CP : Addr} {H H' H0 H1 : Hp} {a b l r p D T : Addr} {L M : List Nat} {Q : VK} {E : XK} {cs : List (List Nat)} {n m : Nat} {f : Nat → Nat} {ss tt : List Stp} {ch : List (Nat × Nat)} {σ : St}
theorem FrL.mono (h : FrL p H0 H l) (S : Same H H') : FrL p H0 H' l := let ⟨a, b, xs, e, z⟩ := h; ⟨a, b, xs, S _ _ e, z⟩
theorem FrC.mono (h : FrC p H0 H l) (S : Same H H') : FrC p H0 H' l := let ⟨a, ms, e, z, g⟩ := h; ⟨a.mono S, ms, S _ _ e, z, fun m hm => (g m hm).mono S⟩
theorem FrL.mk {Hx : Hp} {xs : List V} (S : Same H Hx) (np : Hx p = none) (n : H0 l = none) (h : H l = some (.lst xs)) (hz : xs.length ≤ 10000) : FrL p H0 H l := ⟨n, ne_of_none (S _ _ h) np, xs, h, hz⟩
theorem FrL.nat {Hx : Hp} (S : Same H Hx) (np : Hx p = none) (n : H0 l = none) (h : H l = some (.lst (natV L))) (hz : L.length ≤ 10000) : FrL p H0 H l := .mk S np n h (by rw [natV_len]; exact hz)
theorem ClsN.fr {Hx : Hp} (h : ClsN H0 H l cs) (S : Same H Hx) (np : Hx p = none) (hz : cs.length ≤ 10000) (hc : ∀ c ∈ cs, c.length ≤ 10000) : FrC p H0 H l := by
  obtain ⟨n, as, e, hl, g⟩ := h
  refine ⟨.mk S np n e (by rw [List.length_map]; omega), as, e, by omega, fun m hm => ?_⟩
  obtain ⟨i, hi⟩ := List.mem_iff_getElem?.mp hm
  have hlt := (List.getElem?_eq_some_iff.mp hi).1
  have hc0 : cs[i]? = some (cs[i]'(by omega)) := List.getElem?_eq_getElem _
  obtain ⟨a, h1, h2, h3⟩ := g i _ hc0
  rw [hi] at h1
  cases h1
  exact .nat S np h3 h2 (hc _ (List.mem_of_getElem? hc0))
variable (K CT CP)
end
end L2.Px
set_option Elab.async false
set_option linter.all false
set_option maxRecDepth 100000
set_option maxHeartbeats 1000000
namespace L2.Px
open PySem PySem.Spec PyProof.Rows StX TL ClX LamX
end L2.Px
namespace L2.Px
open PySem PySem.Spec PyProof.Rows StX TL ClX LamX
section
variable {K : PySem.W.Frag} {CT CP : Addr} {H : Hp} {Q : VK} {l : Addr} {σ : St} {L M : List Nat} {ss : List Stp}
/-- a list of new pairs (text of one sign, number) -/
def PrsAt (H : Hp) (l : Addr) (cs : List Nat) (g : Nat → Nat) : Prop := ∃ xs, H l = some (.lst xs) ∧ xs.length = cs.length ∧ ∀ (i : Nat) (c : Nat), cs[i]? = some c → ∃ T, xs[i]? = some (V.ref T) ∧ H T = some (.tup [.str ⟨#[c]⟩, .int (g c : Nat)])
theorem PrsAt.mono {H' : Hp} {cs : List Nat} {g : Nat → Nat} (h : PrsAt H l cs g) (S : Same H H') : PrsAt H' l cs g :=
  let ⟨xs, e, hl, hx⟩ := h; ⟨xs, S _ _ e, hl, fun i c hc => let ⟨T, a, b⟩ := hx i c hc; ⟨T, a, S _ _ b⟩⟩
end
end L2.Px
namespace L2.Px
open PySem PySem.Spec PyProof.Rows StX TL ClX LamX
end L2.Px
namespace L2.Px
open PySem PySem.Spec PyProof.Rows StX TL ClX LamX
end L2.Px
namespace L2.Px
open PySem PySem.Spec PyProof.Rows StX TL ClX LamX
/-- v is a pair that is no range -/
def BadR (K : PySem.W.Frag) (H : Hp) (ss : List Stp) (v : V) : Prop := ∃ b x y, v = .ref b ∧ SqT K H b [x, y] ∧ NoSeq x ∧ NoSeq y ∧ NoRng ss x y
section
variable {K : PySem.W.Frag} {H H' : Hp} {b : Addr} {ss : List Stp} {v x y : V} {T : List (Addr × Str)}
theorem BadR.mono (h : BadR K H ss v) (S : Same H H') : BadR K H' ss v := let ⟨b, x, y, e, q, r⟩ := h; ⟨b, x, y, e, Same.tup S q, r⟩
end
end L2.Px
set_option Elab.async false
set_option linter.all false
set_option maxRecDepth 100000
set_option maxHeartbeats 1000000
namespace L2.Px
open PySem PySem.Spec PyProof.Rows StX TL ClX LamX
end L2.Px
set_option Elab.async false
set_option linter.all false
set_option maxRecDepth 100000
set_option maxHeartbeats 1000000
namespace L2.Px
open PySem PySem.Spec PyProof.Rows StX TL
theorem ChAt.kp {K : PySem.W.Frag} {H H' : Hp} {l : Addr} {cs : List (Nat × Nat)} {n : Nat} (h : ChAt K H l cs n) (k : Kp H H') : ChAt K H' l cs n := by
  obtain ⟨xs, e, hl, hx⟩ := h
  refine ⟨xs, k.keep _ _ (fun hr => ?_) e, hl, fun i c hc => ?_⟩
  · match xs, hr with
    | [.ref _, .int _, .int _, .int _], _ =>
      obtain ⟨_, _, _, T, eT, _⟩ := hx 1 (cs[1]'(by simp at hl; omega)) (List.getElem?_eq_getElem _)
      cases eT
  · obtain ⟨a, b, d, T, eT, q⟩ := hx i c hc
    exact ⟨a, b, d, T, eT, k.keep _ _ nr_tup q⟩
/-- a dict of the module's top -/
theorem kdt_mk {K : PySem.W.Frag} {w : World} {d : Addr} {es : Array DictEntry} {n : Nat} (l : K.lookup d = some ⟨.type "dict", none, .dict es n, #[]⟩) (e : PySem.W.KeysLit w.params es.toList) (hn : (d == sysModules) = false) : ∃ es n, KDict K w d es n := ⟨es, n, l, e, hn⟩
end L2.Px
set_option Elab.async false
set_option linter.all false
set_option maxRecDepth 100000
set_option maxHeartbeats 1000000
namespace L2.Px
open PySem PySem.Spec PyProof.Rows StX TL
/-- a word or None -/
def WV (v : V) : Prop := (∃ z : Str, v = .str z ∧ z.length ≤ 100 ∧ ∀ c ∈ tl z, c ≤ 122) ∨ v = .non
/-- a number or a bool -/
def NB (v : V) : Prop := (∃ i : Int, v = .int i) ∨ ∃ b : Bool, v = .bl b
def StF (xs : List V) : Prop := (∃ v, xs = [.str "write", v] ∧ WV v) ∨ ∃ a b c, xs = [.str "paste", a, b, c] ∧ NB a ∧ NB b ∧ NB c
theorem StF.head {xs : List V} (h : StF xs) : ∃ z r, xs = .str z :: r ∧ z ≠ "retype" := by
  rcases h with ⟨v, rfl, _⟩ | ⟨a, b, c, rfl, _⟩
  · exact ⟨_, _, rfl, by decide +kernel⟩
  · exact ⟨_, _, rfl, by decide +kernel⟩
inductive Due where
  | num (n : Nat)
  | step (n : Nat)
  | place
  | letter
def dueL : Due → List V
  | .num _ => []
  | .step n => [.str "error", .str "InvalidStep", .int (n : Nat)]
  | .place => [.str "error", .str "InvalidPlace"]
  | .letter => [.str "error", .str "InvalidLetter"]
def dueAt (K : PySem.W.Frag) (H : Hp) (v : V) : Due → Prop
  | .num n => v = .int (n : Nat)
  | d => ∃ p, v = .ref p ∧ H p = some (.tup (dueL d))
/-- what is due of an operation, its values xs, on the text of ss; the steps behind it; the operation in effect -/
inductive AftR (ss : List Stp) (xs : List V) : Due → List Stp → List Op → Prop
  | ok (o : Op) (eo : xs = opV o) (h : okOp ss o) : AftR ss xs (.num (opN ss o)) (aft ss o) [o]
  | step (f : StF xs) (h : ss.length = 30 ∨ isSt (sz ss : Nat) xs = false) : AftR ss xs (.step ss.length) ss []
  | place (p l : V) (eo : xs = [.str "retype", p, l]) (hp : NB p ∨ p = .non) (hl : WV l) (h : isInt 0 ((sz ss : Int) - 1) p = false) : AftR ss xs .place ss []
  | letter (p l : V) (eo : xs = [.str "retype", p, l]) (hp : NB p ∨ p = .non) (hl : WV l) (h : isInt 0 ((sz ss : Int) - 1) p = true) (g : isLet l = false) : AftR ss xs .letter ss []
section
variable {K : PySem.W.Frag} {CT CP CE : Addr} {H H' : Hp} {Q : VK} {E : XK} {r l a b : Addr} {i j : Int} {ms ns xs : List V} {ss ss' : List Stp} {d : Due} {os : List Op} {v : V}
theorem dueAt.mono (h : dueAt K H v d) (S : Same H H') : dueAt K H' v d := by
  cases d with
  | num n => exact h
  | step n => obtain ⟨p, e, q⟩ := h; exact ⟨p, e, S _ _ q⟩
  | place => obtain ⟨p, e, q⟩ := h; exact ⟨p, e, S _ _ q⟩
  | letter => obtain ⟨p, e, q⟩ := h; exact ⟨p, e, S _ _ q⟩
/-- the same values, told twice -/
theorem alX_flat {n : Nat} (h : ∀ v ∈ xs, (∃ i, v = .int i) ∨ (∃ z : Str, v = .str z ∧ z.length ≤ sizeLine) ∨ v = .non) (hz : xs.length ≤ sizeLine) (ha : SqT K H a xs) (hb : SqT K H b xs) : AlX K H (n + 2) (.ref a) (.ref b) :=
  .inr (.inr (.inr ⟨a, b, xs, xs, rfl, rfl, .inl ⟨ha, hb⟩, rfl, hz, fun i x y hx hy => by
    rw [hx] at hy
    cases hy
    rcases h x (List.mem_of_getElem? hx) with ⟨i, rfl⟩ | ⟨z, rfl, hz⟩ | rfl
    · exact .inl ⟨i, rfl, rfl⟩
    · exact .inr (.inl ⟨z, rfl, rfl, hz⟩)
    · exact .inr (.inr (.inl ⟨rfl, rfl⟩))⟩))
theorem opV_flat {o : Op} (h : okOp ss o) : ∀ v ∈ opV o, (∃ i, v = .int i) ∨ (∃ z : Str, v = .str z ∧ z.length ≤ sizeLine) ∨ v = .non := by
  intro v hv
  have s := sml_op h v hv
  cases o with
  | st s' => cases s' with
    | wr w =>
      simp only [opV, stV, List.mem_cons, List.not_mem_nil, or_false] at hv
      rcases hv with rfl | rfl
      · exact .inr (.inl ⟨_, rfl, s.2 _ rfl⟩)
      · exact .inr (.inl ⟨_, rfl, s.2 _ rfl⟩)
    | pa f l t =>
      simp only [opV, stV, List.mem_cons, List.not_mem_nil, or_false] at hv
      rcases hv with rfl | rfl | rfl | rfl
      · exact .inr (.inl ⟨_, rfl, s.2 _ rfl⟩)
      · exact .inl ⟨_, rfl⟩
      · exact .inl ⟨_, rfl⟩
      · exact .inl ⟨_, rfl⟩
  | re p c =>
    simp only [opV, List.mem_cons, List.not_mem_nil, or_false] at hv
    rcases hv with rfl | rfl | rfl
    · exact .inr (.inl ⟨_, rfl, s.2 _ rfl⟩)
    · exact .inl ⟨_, rfl⟩
    · exact .inr (.inl ⟨_, rfl, s.2 _ rfl⟩)
theorem opV_len {o : Op} : (opV o).length ≤ 4 := by
  cases o with
  | st s => cases s <;> simp [opV, stV]
  | re p c => simp [opV]
theorem alX_ops {n : Nat} (ok : ∀ o ∈ os, ∃ ss, okOp ss o) (few : os.length ≤ 1000) (h1 : SqL K H a ms) (h2 : SqL K H b ns) (s1 : OpsAt K H ms os) (s2 : OpsAt K H ns os) : AlX K H (n + 3) (.ref a) (.ref b) :=
  .inr (.inr (.inr ⟨a, b, ms, ns, rfl, rfl, .inr ⟨h1, h2⟩, by rw [s1.1, s2.1], by rw [s1.1, sizeLine_eq]; omega, fun i x y hx hy => by
    have hi : i < os.length := by rw [← s1.1]; exact (List.getElem?_eq_some_iff.mp hx).1
    have es := List.getElem?_eq_getElem hi
    obtain ⟨u, e1, p, rfl, q1⟩ := s1.2 i _ es
    obtain ⟨u', e2, p', rfl, q2⟩ := s2.2 i _ es
    rw [hx] at e1; cases e1
    rw [hy] at e2; cases e2
    obtain ⟨s, h⟩ := ok _ (List.mem_of_getElem? es)
    exact alX_flat (opV_flat h) (Nat.le_trans opV_len (by rw [sizeLine_eq]; decide)) q1 q2⟩))
theorem OpsAt.refs41 (h : OpsAt K H ms os) : ∀ v ∈ ms, isRef v = true := by
  intro v hv
  obtain ⟨j, hj⟩ := List.getElem?_of_mem hv
  have hl : j < os.length := by rw [← h.1]; exact (List.getElem?_eq_some_iff.mp hj).1
  obtain ⟨u, e, a, rfl, _⟩ := h.2 j _ (List.getElem?_eq_getElem hl)
  rw [hj] at e
  cases e
  rfl
end
section
variable {K : PySem.W.Frag} {CT CP CE C : Addr} {T : List (Addr × Str)} {H H' : Hp} {r le ld : Addr} {ms ns : List V} {ss : List Stp} {os : List Op}
/-- what the law holds: its dice, the names, its steps and its operations -/
structure LiS (K : PySem.W.Frag) (T : List (Addr × Str)) (H : Hp) (r le ld : Addr) (ms ns : List V) (ss : List Stp) (os : List Op) : Prop where
  row : RowAt K H r
  tab : LamX.Tabs T H
  el : H le = some (.lst ms)
  st : StepsAt K H ms ss
  dl : H ld = some (.lst ns)
  ops : OpsAt K H ns os
theorem LiS.km (h : LiS K T H r le ld ms ns ss os) (k : Km C T H H') (row : RowAt K H' r) : LiS K T H' r le ld ms ns ss os :=
  ⟨row, k.tabs h.tab, k.li (nr_refs h.st.refs) h.el, h.st.km k, k.li (nr_refs h.ops.refs41) h.dl, h.ops.1, fun j o q => let ⟨v, a, b, c, e⟩ := h.ops.2 j o q; ⟨v, a, b, c, k.tup e⟩⟩
theorem LiS.same (h : LiS K T H r le ld ms ns ss os) (k : Same H H') : LiS K T H' r le ld ms ns ss os := h.km (C := r) (.same k) (h.row.mono k)
theorem LiS.kp (h : LiS K T H r le ld ms ns ss os) (k : Kp H H') (row : RowAt K H' r) : LiS K T H' r le ld ms ns ss os := h.km (C := r) (.kp k) row
theorem LiS.but {x dx : Addr} {fs : List (Str × V)} (h : LiS K T H r le ld ms ns ss os) (b : But x H H') (e : H x = some (.ins CE dx fs)) : LiS K T H' r le ld ms ns ss os := h.km (Km.but (C := CE) b e) (h.row.but b e)
end
theorem dueAt.km {K : PySem.W.Frag} {C : Addr} {T : List (Addr × Str)} {H H' : Hp} {v : V} {d : Due} (h : dueAt K H v d) (k : Km C T H H') : dueAt K H' v d := by
  cases d with
  | num n => exact h
  | step n => obtain ⟨p, e, q⟩ := h; exact ⟨p, e, k.tu q⟩
  | place => obtain ⟨p, e, q⟩ := h; exact ⟨p, e, k.tu q⟩
  | letter => obtain ⟨p, e, q⟩ := h; exact ⟨p, e, k.tu q⟩
theorem dueAt.ref {K : PySem.W.Frag} {H : Hp} {v : V} {d : Due} (h : dueAt K H v d) (hd : ∀ n, d ≠ .num n) : ∃ p, v = .ref p ∧ SqT K H p (dueL d) := by
  cases d with
  | num n => exact absurd rfl (hd n)
  | step n => obtain ⟨p, e, q⟩ := h; exact ⟨p, e, SqT.of q⟩
  | place => obtain ⟨p, e, q⟩ := h; exact ⟨p, e, SqT.of q⟩
  | letter => obtain ⟨p, e, q⟩ := h; exact ⟨p, e, SqT.of q⟩
theorem AftR.ops {ss ss' : List Stp} {xs : List V} {d : Due} {os : List Op} (h : AftR ss xs d ss' os) : ((∃ n, d = .num n) ∧ ∃ o, os = [o] ∧ xs = opV o ∧ okOp ss o) ∨ ((∀ n, d ≠ .num n) ∧ os = []) := by
  cases h with
  | ok o eo h => exact .inl ⟨⟨_, rfl⟩, o, rfl, eo, h⟩
  | step f h => exact .inr ⟨fun n z => (by cases z), rfl⟩
  | place p l eo hp hl h => exact .inr ⟨fun n z => (by cases z), rfl⟩
  | letter p l eo hp hl h g => exact .inr ⟨fun n z => (by cases z), rfl⟩
end L2.Px
set_option Elab.async false
set_option linter.all false
set_option maxRecDepth 100000
set_option maxHeartbeats 2000000
namespace L2.Px
open PySem PySem.Spec PyProof.Rows StX TL
/-- the star promise of a generator around its body's own -/
def spStarG (n : Nat) (sp : SpG) : SpG := fun vs H Q E => ∃ ws rest, vs = ws ++ rest ∧ ws.length = n ∧ rest.length ≤ sizeLine ∧ ∀ p, H p = Option.none → sp (ws ++ [V.ref p]) (upd H p (.tup rest)) Q E
/-- the call of a generator def that lays a tuple of what is left over -/
def GSRun (P : Program) (w : World) (K : PySem.W.Frag) (mg : Str → Option Value) (base : Heap) (k : Nat) (f : Addr) (sp : SpG) : Prop :=
  ∀ (A : Around) (outer : List Env) (s : Shared) (H : Hp) (us : List Value) (vs : List V) (Q : List V → Hp → Prop) (E : XK), Room k A → Env0 P w K mg base A outer s H → Vals vs us → sp vs H Q E →
    codeAny (model P w) A (.call (.ref f) ⟨us, []⟩) (fun r s' => ∃ u o ws, r = .ok (.ret u) ∧ ObjOk P w (upd H s.heap.objs.size (.tup ws)) (s.heap.push o) s.heap.objs.size (.tup ws) ∧ (s.heap.push o).get? s.heap.objs.size = some o ∧
      GMade P w k outer (upd H s.heap.objs.size (.tup ws)) { s with heap := s.heap.push o } [] Q E u s') s
section
variable {P : Program} {w : World} {K : PySem.W.Frag} {mg : Str → Option Value} {base : Heap} {k : Nat} {f : Addr} {name qual : Str} {params : Arguments} {body : List Stmt} {scope : Scope} {dV kV doc pm cdv ct oc : Value} {an od : Option Addr}
  {osl : Array (Option Value)} {N ps : List Str} {sp : SpG}
/-- arguments that are bound, and a frame: the generator that is made then has not begun -/
theorem gen_fresh {A : Around} {outer : List Env} {s s1 : Shared} {H : Hp} {us : List Value} {vs : List V} {Q : List V → Hp → Prop} {E : XK} {go : Obj} {nm qn : Value} {tk : Nat} (S : GScope N ps scope) (e0 : Env0 P w K mg base A outer s H) (hl : vs.length = ps.length) (r : Vals vs us)
    (x : InCallC s s.heap.objs.size (bindL (envOfC qual scope s.heap.objs.size f cdv).kindOf (ps.zip us) fun _ => none) (cellsFrom (s.heap.objs.size + 1) scope.names []) (bindC (envOfC qual scope s.heap.objs.size f cdv).kindOf (ps.zip us) fun _ => none) s1)
    (hbody : ∀ (Aw : Around) (pn : List (Addr × Obj)), Room k (Aw.deeper (envOfC qual scope s.heap.objs.size f cdv)) →
      ∃ t, GSs (gcxOf P w K mg base N qual scope f cdv Aw outer s H E pn) body t ∧ t { nx := fun ys _ H' => Q ys H', rt := fun ys v H' => v = .non ∧ Q ys H' } [] (start N vs) H)
    (g1 : go.cls = .type "generator") (g2 : go.data = .fields #[.int s1.gens.size 0, nm, qn]) (g3 : go.slots = #[]) (g4 : (s1.heap.push go).get? s1.heap.objs.size = some go) :
    GMade P w (k + 1) outer H s [] Q E (.ref s1.heap.objs.size) { s1 with gens := s1.gens.push (.fresh (.func body (envOfC qual scope s.heap.objs.size f cdv))), toks := tk, heap := s1.heap.push go } := by
  have z0 : s.heap.objs.size < s1.heap.objs.size := x.toInCall.ns.lt
  have z1 := Nat.le_of_lt z0
  obtain ⟨_, _, es, _⟩ := x.done
  have eos : s1.os = s.os := by rw [es]
  have egen : s1.gens = s.gens := by rw [es]
  have lim : s1.heap.NoLimit := (e0.mod.nolimit.keeps fun b o e => (e0.bs b o e).1).keeps x.toInCall.keep
  have isg : ∀ h : Heap, h.get? s1.heap.objs.size = some go → h.IsGen s1.heap.objs.size s1.gens.size := fun h e => ⟨go, nm, qn, e, g1, g2, g3⟩
  refine ⟨s1.heap.objs.size, s1.gens.size, _, rfl, z1, by show _ < (s1.heap.push _).objs.size; rw [Heap.size_push]; exact Nat.lt_succ_self _, isg _ g4, Array.getElem?_push_size .., eos,
    AllBare.push (by rw [egen]; exact e0.bare) rfl, lim.keeps fun b o e => Heap.get?_push_of_some _ e, fun b o e => Heap.get?_push_of_some _ (x.toInCall.keep b o e), ?_⟩
  intro Aw Sx s2 hr fr leS kp ⟨c, eS⟩ os2 bare2
  have leS : s1.heap.objs.size < Sx := by
    have : (s1.heap.push go).objs.size ≤ Sx := leS
    rwa [Heap.size_push] at this
  obtain ⟨t, ht, hq⟩ := hbody Aw [(s1.heap.objs.size, go)] (hr.deeper _)
  generalize eX : gcxOf P w K mg base N qual scope f cdv Aw outer s H E [(s1.heap.objs.size, go)] = X at ht
  have J0 : Inv (gcxOf P w K mg base N qual scope f cdv Aw outer s H E []) [] (start N vs) H s1 := inv_startG S hr.hd ⟨fr, e0.mod, e0.bs, e0.bsz, e0.funs, e0.frf, e0.hok, e0.bare⟩ hl r x
  have kp1 : ∀ b o, s1.heap.get? b = some o → s2.heap.get? b = some o := fun b o e => kp b o (Heap.get?_push_of_some _ e)
  have J : Inv (gcxOf P w K mg base N qual scope f cdv Aw outer s H E []) [] (start N vs) H s2 := J0.call' (ch := []) (os2.trans eos.symm) (Un.kept kp1) (J0.hok.kept kp1) bare2 fun b z => by simp at z
  have late : ∀ b, s1.heap.objs.size ≤ b → H b = none ∧ b ≠ s.heap.objs.size ∧ b ∉ frs outer ∧ s.heap.objs.size ≤ b ∧ ∀ y c, (cellsFrom (s.heap.objs.size + 1) scope.names []).lookup y = some c → c ≠ b := fun b hb =>
    ⟨J0.hok.fresh hb, by omega, J0.nofs hb, by omega, fun y c e z => by
      obtain ⟨_, _, ho, _⟩ := J0.cell y c e
      have q := Heap.lt_size ho
      rw [z] at q
      exact absurd (Nat.lt_of_lt_of_le q hb) (Nat.lt_irrefl _)⟩
  have l1 := late _ (Nat.le_refl _)
  have l2 := late _ (Nat.le_of_lt leS)
  have G0 : GI X Sx [] [] (start N vs) H s2 := by
    subst eX
    refine ⟨#[], c, .nil, Inv.pinnedG J fun p hp => ?_⟩
    have hp' : p = (s1.heap.objs.size, go) ∨ p = (Sx, lstObj #[] c) := by simpa using hp
    rcases hp' with rfl | rfl
    · exact ⟨kp _ _ g4, l1.1, l1.2.1, l1.2.2.1, fun v q => by rw [g2] at q; cases q⟩
    · exact ⟨eS, l2.1, l2.2.1, l2.2.2.1, fun v q => by cases q⟩
  have away : ∀ p ∈ X.pn, p.1 ≠ Sx := by
    subst eX
    intro p hp
    rw [List.mem_singleton.mp hp]
    exact Nat.ne_of_lt leS
  have apart : Apart X Sx := by subst eX; exact ⟨l2.2.2.2.1, l2.2.1, l2.2.2.2.2⟩
  have its : ∀ {ip : List (Addr × Obj)} {ys : List V} {s' : Shared} {σ' : L2.St} {H' : Hp}, GI X Sx ip ys σ' H' s' → s'.heap.IsGen s1.heap.objs.size s1.gens.size := by
    subst eX
    rintro ip ys s' σ' H' ⟨_, _, _, I⟩
    exact isg _ (I.pin (s1.heap.objs.size, go) (List.mem_append_left _ (List.mem_singleton.mpr rfl))).1
  refine seg_func (seg_imp (R := GR X Sx (fun ys v H' => v = .non ∧ Q ys H') fun e s' => CX P w outer H s E e s' ∧ ∀ p ∈ [(s1.heap.objs.size, go)], s'.heap.get? p.1 = some p.2) (Y := GY X Sx) (fun n s₀ r' s' hR => ?_) (fun n s₀ v s' kap kap' hk hY => ?_) sizeLine ?_)
  · match r', hR with
    | .error e, q => exact .inr ⟨e, rfl, q.1, isg _ (q.2 (s1.heap.objs.size, go) (List.mem_singleton.mpr rfl))⟩
    | .ok (.ret u), q =>
      obtain ⟨ys, v, ip, σ', H', hn, I, rv, ev, hQ⟩ := q
      subst ev
      obtain rfl : u = Value.none := rv
      obtain ⟨a1, _, _, acc, cc, ra, ea⟩ := I.at
      obtain ⟨_, _, _, I⟩ := I
      subst eX
      exact .inl ⟨.inl rfl, H', ys, acc, cc, I.os, I.bare, I.base, I.hok, a1, ea, ra, by omega, hQ⟩
    | .ok .next, q => exact False.elim q
    | .ok .brk, q => exact False.elim q
    | .ok .cont, q => exact False.elim q
  · obtain ⟨ys, xx, ip, σ', H', hn, h2, I, h3⟩ := hY
    obtain ⟨_, _, _, acc, cc, ra, ea⟩ := I.at
    have ig := its I
    obtain ⟨_, _, _, I⟩ := I
    have hz : acc.size = ys.length := by
      have e1 := ra.length
      have e2 : acc.toList.length = acc.size := by simp
      omega
    subst eX
    exact ⟨I.os, I.bare, I.nolimit, ig, ⟨acc, cc, ea, by rw [hz]; exact hn⟩, fun s' z => hk _ _ (h3 s' z)⟩
  · subst eX
    refine ht.run Aw Sx [] _ sizeLine [] s2 _ [] _ _ id id s2 (start N vs) H _ ⟨away, fun p hp => absurd hp List.not_mem_nil, apart, GenW.over_func, rfl, rfl, rfl⟩ (Nat.add_zero _) ⟨fun n ys s₀ s' fl hn hs => ?_, fun n s₀ e s' hx => ?_⟩ G0 hq
    · match fl, hs with
      | .next, ⟨σ', H', I, q⟩ => exact seg_end (.ok (.ret .none)) ⟨ys, .non, [], σ', H', hn, I, rfl, rfl, q⟩
      | .ret u, ⟨v, σ', H', I, rv, ev, q⟩ => exact seg_end (.ok (.ret u)) ⟨ys, v, [], σ', H', hn, I, rv, ev, q⟩
      | .brk, ⟨_, _, _, q⟩ => exact False.elim q
      | .cont, ⟨_, _, _, q⟩ => exact False.elim q
    · refine seg_wrap ?_
      rw [GenW.over_func]
      exact wpAny_mono hx (fun _ s'' q => seg_end (.error e) q) fun _ s'' q => q.elim
/-- a generator def with *args, by its body -/
theorem gsrun_of {pv : Str} (lk : K.lookup f = some ⟨oc, od, .func (PySem.W.fnOf name qual params body scope dV kV doc pm an cdv ct), osl⟩) (hcd : PySem.W.codeIn K cdv qual = true) (S : GScope N (ps ++ [pv]) scope)
    (hb : ∀ us rest : List Value, us.length = ps.length → bindArgs (PySem.W.fnOf name qual params body scope dV kV doc pm an cdv ct) ⟨us ++ rest, []⟩ = (newTuple rest >>= fun t => pure (ps.zip us ++ [(pv, t)])))
    (hbody : ∀ (A : Around) (outer : List Env) (s : Shared) (H : Hp) (vs : List V) (Q : List V → Hp → Prop) (E : XK) (pn : List (Addr × Obj)), Room k (A.deeper (envOfC qual scope s.heap.objs.size f cdv)) → sp vs H Q E →
      ∃ t, GSs (gcxOf P w K mg base N qual scope f cdv A outer s H E pn) body t ∧ t { nx := fun ys _ H' => Q ys H', rt := fun ys v H' => v = .non ∧ Q ys H' } [] (start N vs) H) : GSRun P w K mg base (k + 1) f (spStarG ps.length sp) := by
  rintro A outer s H us vs Q E hr e0 r ⟨ws, rest, rfl, hl, hz, hq⟩
  obtain ⟨u1, u2, rfl, r1, r2⟩ := vals_split r
  have hn : H s.heap.objs.size = Option.none := e0.hok.fresh (Nat.le_refl _)
  have hl1 : u1.length = ps.length := by rw [← r1.length]; exact hl
  have hl2 : u2.length ≤ sizeLine := by rw [← r2.length]; exact hz
  have KX : K.In s.heap := e0.mod.kin.keeps fun b o e => (e0.bs b o e).1
  refine codeAny_call_generator hr.depth (KX _ _ lk) rfl S.co S.gen rfl (PySem.W.codeRec_of KX hcd) ?_
  rw [hb u1 u2 hl1]
  refine wpAny_bind (wpAny_newTuple (wpAny_pure ?_) hl2)
  have get0 : (s.heap.push ({ cls := .type "tuple", data := .seq u2.toArray } : Obj)).get? s.heap.objs.size = some { cls := .type "tuple", data := .seq u2.toArray } := Heap.get?_push_size _ rfl
  have new : ObjOk P w (upd H s.heap.objs.size (.tup rest)) (s.heap.push ({ cls := .type "tuple", data := .seq u2.toArray } : Obj)) s.heap.objs.size (.tup rest) := ⟨hz, u2, r2, ⟨_, get0, rfl, _, rfl⟩⟩
  have e2 := env0_laid e0 new
  have r3 : Vals (ws ++ [V.ref s.heap.objs.size]) (u1 ++ [Value.ref s.heap.objs.size]) := r1.append (.cons rfl .nil)
  have ez : ps.zip u1 ++ [(pv, Value.ref s.heap.objs.size)] = (ps ++ [pv]).zip (u1 ++ [Value.ref s.heap.objs.size]) := by rw [List.zip_append hl1.symm]; rfl
  show wpAny _ _ (newFunctionEnv _ _ _ (ps.zip u1 ++ [(pv, Value.ref s.heap.objs.size)]) _ _ _ _ _) _ _ _
  rw [ez]
  refine wpAny_newFunctionEnv_cells S.kind (fun y hy => ?_) fun env he s1 x => ?_
  · rcases S.par y.1 (List.of_mem_zip hy).1 with q | q
    · exact .inl q
    · exact .inr ⟨q, PySem.W.cellsFrom_some _ _ _ (.inl q)⟩
  · subst he
    have lim : s1.heap.NoLimit := (e2.mod.nolimit.keeps fun b o e => (e2.bs b o e).1).keeps x.toInCall.keep
    exact ⟨lim, _, _, rest, rfl, new, get0, gen_fresh S e2 (by rw [List.length_append, List.length_append, hl]; rfl) r3 x (fun Aw pn hr' => hbody Aw outer _ _ _ Q E pn hr' (hq _ hn)) rfl rfl rfl (Heap.get?_push_size _ rfl)⟩
end
/-- a generator method with *args -/
def GMOk (P : Program) (w : World) (K : PySem.W.Frag) (mg : Str → Option Value) (base : Heap) (k : Nat) (C : Addr) (m : Str) (sp : SpG) : Prop := ∃ f, GSRun P w K mg base k f sp ∧ BMeth K C m f
section
variable {P : Program} {w : World} {K : PySem.W.Frag} {mg : Str → Option Value} {base : Heap} {k : Nat} {C : Addr} {ps : List Str} {sp : SpG} {m qual : Str} {st : Stmt}
theorem DefBS.gen {N : List Str} {pv : Str} (D : DefBS K C m qual st ps pv) (S : GScope N (ps ++ [pv]) (defScope st))
    (hbody : ∀ (f : Addr) (cdv : Value) (A : Around) (outer : List Env) (s : Shared) (H : Hp) (vs : List V) (Q : List V → Hp → Prop) (E : XK) (pn : List (Addr × Obj)), Room k (A.deeper (envOfC qual (defScope st) s.heap.objs.size f cdv)) → sp vs H Q E →
      ∃ t, GSs (gcxOf P w K mg base N qual (defScope st) f cdv A outer s H E pn) (defBody st) t ∧ t { nx := fun ys _ H' => Q ys H', rt := fun ys v H' => v = .non ∧ Q ys H' } [] (start N vs) H) : GMOk P w K mg base (k + 1) C m (spStarG ps.length sp) := by
  obtain ⟨f, fd, F, M, hb⟩ := D
  obtain ⟨oc, od, kV, doc, pm, an, cdv, ct, osl, rfl, lk, hcd⟩ := F.ex
  exact ⟨f, gsrun_of (sp := sp) lk hcd S hb fun A outer s H vs Q E pn hr h => hbody f cdv A outer s H vs Q E pn hr h, M⟩
end
section
variable {X : Cx} {k : Nat} {sp : SpG} {C : Addr} {m : Str} {e o : Expr} {es : List Expr} {ta te : TE} {t : TA} {p p' pos pos' apos : Pos}
theorem code_gs {f : Addr} {pins : List (Addr × Obj)} {σ : St} {H : Hp} {s : Shared} {us : List Value} {vs : List V} {cont : List V → Hp → Prop} {E : XK} {E1 : Value → Shared → Prop} (F : GSRun X.prog X.w X.K X.mg X.base k f sp) (hr : Room k X.A) (I : Inv X pins σ H s) (r : Vals vs us) (h : sp vs H cont E) :
    codeAny (model X.prog X.w) X.A (.call (.ref f) ⟨us, []⟩) (fun r s' => match r with | .ok (.ret u) => ∃ H1 sc ex, Inv X pins σ H1 sc ∧ ExOk X pins ex ∧ GMade X.prog X.w k X.stack H1 sc ex cont E u s' | .ok _ => False | .error e => E1 e s') s := by
  refine codeAny_mono (F X.A X.stack s H us vs cont E hr I.env0 r h) fun r' s' hq => ?_
  obtain ⟨u, ob, ws, rfl, new, _, g⟩ := hq
  exact ⟨_, _, [], L2.Inv.laidN (t' := s.toks) I (fun b o q => Heap.get?_push_of_some _ q) (Heap.get?_none_of_le (Nat.le_refl _)) (I.hok.fresh (Nat.le_refl _)) new, .nil, g⟩
/-- o.m(e, ..) of such a method -/
def tMG (C : Addr) (m : Str) (sp : SpG) (ta : TE) (t : TA) : TGen := fun σ H cont => ta σ H fun x H1 => ∃ a, x = .ref a ∧ InsM H1 a C m ∧ t σ H1 fun vs H2 => sp (.ref a :: vs) H2 cont NoX
theorem pgen_mG {pl : Sem Bool} (he : PE X o ta) (c : Cls X.K C) (G : GMOk X.prog X.w X.K X.mg X.base k C m sp) (hr : Room k X.A) (ha : PA X (e :: es) t)
    (hst : starEach (e :: es) X.env = (false, eval e X.env) :: starEach es X.env := by rfl) (hpl : (backTo pos' (starEach es X.env)).any (·.1) = false := by rfl)
    (ht : eval (.Call (.Attribute o m apos) (e :: es) [] pos') X.env = (do
      let ov ← eval o X.env
      standAt apos.atName
      let (f, first) ← holding [ov] (getMethod ov m pl)
      callWith pos' f first (backTo pos' (starEach (e :: es) X.env)) (backToKw pos' (keywordEach [] X.env))) := by rfl) :
    PGen X k (.Call (.Attribute o m apos) (e :: es) [] pos') (tMG C m sp ta t) NoX := by
  obtain ⟨f, F, b⟩ := G
  refine ⟨fun pins s σ H cont I h => ?_⟩
  refine PySem.W.methodCall_KW (pl := pl) (thn (he.run pins s σ H _ I h) fun u s1 ⟨x, H1, I1, rx, a, ex, ⟨dx, fs, ea, l⟩, q⟩ => ?_) ht
  subst ex
  obtain rfl : u = Value.ref a := rx
  refine getmeth_ok I1 ea c b.mt l ?_
  refine PySem.W.callWith_K (first := [.ref a]) (h₀ := X.base) I.ok.mod.kin b.mt.kp (thn (ha.run pos' pins s1 σ H1 _ I1 q) fun us s2 ⟨vs, H2, I2, r, q2⟩ => ⟨I2.kIn, ?_⟩) hst hpl
  exact wpAny_call (code_gs (us := .ref a :: us) (vs := .ref a :: vs) F hr I2 (.cons rfl r) q2)
/-- list(g) of a generator that no error leaves -/
theorem pe_lg {tg : TGen} {c : Expr} (h : PGen X k c tg NoX) (hr : Room (k + 3) X.A) (hmg : X.mg "list" = none) (hgl : Gl X "list" := by rfl) (he : starEach [c] X.env = (false, eval c X.env) :: starEach [] X.env := by rfl) :
    PE X (.Call (.Name "list" p) [c] [] pos) (tListG tg) :=
  pe_listG (E := NoX) h (fun _ _ _ _ _ _ _ ⟨_, _, _, _, _, _, _, _, _, _, _, _, q⟩ => q.elim) (fun _ _ _ q => q.elim) hr hgl hmg rfl (he := he)
variable {σ : St} {H : Hp} {Q : VK}
theorem rd_lmG (h : ta σ H fun x H1 => ∃ a, x = .ref a ∧ InsM H1 a C m ∧ t σ H1 fun vs H2 => sp (.ref a :: vs) H2 (fun out H2 => ∀ p, H2 p = none → Q (.ref p) (upd H2 p (.lst out))) NoX) : tListG (tMG C m sp ta t) σ H Q := h
end
section
variable {X : Cx} {body orelse : List Stmt} {h₀ : ExceptHandler} {hds : List ExceptHandler} {pos : Pos} {tb u : TS}
def tTry0 (tb u : TS) : TS := fun D σ H => tb { D with nx := u D } σ H
theorem rd_try0 {nx ct bk : St → Hp → Prop} {rt : VK} {σ : St} {H : Hp} (h : tb ⟨fun σ1 H1 => u ⟨nx, rt, bk, ct⟩ σ1 H1, rt, bk, ct⟩ σ H) : tTry0 tb u ⟨nx, rt, bk, ct⟩ σ H := h
end
def szB : List Stp → List Op → List Nat
  | _, [] => []
  | ss, o :: r => sz (aft ss o) :: szB (aft ss o) r
theorem szB_snoc : ∀ (os : List Op) (ss : List Stp) (o : Op), szB ss (os ++ [o]) = szB ss os ++ [sz (aft (runB ss os) o)]
  | [], _, _ => rfl
  | a :: os, ss, o => by show _ :: szB (aft ss a) (os ++ [o]) = _; rw [szB_snoc os (aft ss a) o]; rfl
theorem szB_len : ∀ (os : List Op) (ss : List Stp), (szB ss os).length = os.length
  | [], _ => rfl
  | a :: os, ss => by show (szB (aft ss a) os).length + 1 = _; rw [szB_len os]; rfl
section
variable (K : PySem.W.Frag) (CT CP CE : Addr)
def spg_Editor_sizes_after : SpG := fun vs H Q _ => ∃ e m rs os ss ds us, vs = [.ref e, .ref m] ∧ EdAt K CT CP CE H e ss ds us ∧ SqT K H m rs ∧ OpsAt K H rs os ∧ okB ss os ∧ os.length ≤ 10000 ∧ ∀ H', Same H H' → Q (natV (szB ss os)) H'
end
/-- a generator's for over a tuple -/
theorem gfor_tup {K : PySem.W.Frag} {D : GEnds} {ys : List V} {σ : St} {H1 : Hp} {b : TGn} {g : TG} {a : Addr} {xs : List V} (W : Nat → List V → St → Hp → Prop) (h0 : W 0 ys σ H1) (hq : ∀ i ys σ H, i ≤ xs.length → W i ys σ H → SqT K H a xs)
    (hs : ∀ i v ys σ H, xs[i]? = some v → W i ys σ H → g v σ H fun σ2 H2 => b { D with nx := W (i + 1), ct := W (i + 1), bk := D.nx } ys σ2 H2) (hd : ∀ ys σ H, W xs.length ys σ H → D.nx ys σ H) :
    ∃ W : Nat → Nat → List V → St → Hp → Prop, (∃ m, W 0 m ys σ H1) ∧ ∀ i m ys σ H, W i m ys σ H →
  ((Itt K a).stop i H ∧ D.nx ys σ H) ∨ ((Itt K a).go i H ∧ ∃ N : List V → St → Hp → Prop, (∀ ys' σ' H', N ys' σ' H' → ∃ m', m' < m ∧ W (i + 1) m' ys' σ' H') ∧ ∀ x H', (Itt K a).yld i H x H' → g x σ H' fun σ2 H2 => b { D with nx := N, ct := N, bk := D.nx } ys σ2 H2) := by
  refine ⟨fun i m ys σ H => m = xs.length - i ∧ i ≤ xs.length ∧ W i ys σ H, ⟨_, rfl, Nat.zero_le _, h0⟩, ?_⟩
  rintro i m ys σ H ⟨rfl, hi, w⟩
  have sq := hq i ys σ H hi w
  by_cases h : i < xs.length
  · refine .inr ⟨⟨xs, xs[i], sq, by simp [h]⟩, W (i + 1), fun ys' σ' H' z => ⟨xs.length - (i + 1), by omega, rfl, by omega, z⟩, fun x H' y => ?_⟩
    obtain ⟨e1, e2⟩ := y
    subst e1
    exact hs i x ys σ H' (e2 _ sq) w
  · have e : i = xs.length := by omega
    subst e
    exact .inl ⟨⟨xs, sq, Nat.le_refl _⟩, hd ys σ H w⟩
end L2.Px
set_option Elab.async false
set_option linter.all false
set_option maxRecDepth 100000
set_option maxHeartbeats 1000000
namespace L2.Px
open PySem PySem.Spec PyProof.Rows StX TL ClX LamX
/-- == of flat things, or of equal dicts -/
def rEqAD (K : PySem.W.Frag) : R2 := fun x y H Q => rEqA K x y H Q ∨ rEqDA x y H Q
theorem oEqAD {X : Cx} {K : PySem.W.Frag} (hu : X.A.units + 64 < cLine) (hk : X.K = K) : OpR X (compareOp .Eq) (rEqAD K) := hk ▸ (oEq hu).or (op_eq_dictA (by omega))
/-- the pairs' keys are unlike, their values flat -/
def FlatD (kvs : List (Key × V)) : Prop := ∀ p ∈ kvs, valV kvs p.1 = some p.2 ∧ flatB p.2 = true
section
variable {K : PySem.W.Frag} {CT CP CE CK : Addr} {H H' : Hp} {a b x h d l p t : Addr} {v w : V} {x' y' : V} {kvs : List (Key × V)} {ss : List Stp} {f : Nat → Nat} {ls : List (Nat × Nat)} {ob : List Obs} {Q : VK} {E : XK} {n m : Nat} {ms ns : List V} {L : List Nat}
theorem rd_eqADl (h : rEqA K x' y' H Q) : rEqAD K x' y' H Q := .inl h
theorem rd_eqADr (h1 : H a = some (.dK kvs)) (h2 : H b = some (.dK kvs)) (fl : FlatD kvs) (q : Q (.bl true) H) : rEqAD K (.ref a) (.ref b) H Q := .inr ⟨a, b, kvs, kvs, rfl, rfl, h1, h2, rfl, fl, q⟩
theorem rd_isi_dK_tuple (e : H a = some (.dK kvs)) (q : Q (.bl false) H) : rIsi K [.ref a, .ty "tuple"] H Q := rd_isi (.ty _) (.base (.dK e)) (kit_ty (by decide +kernel)) q
theorem rd_isi_dK_list (e : H a = some (.dK kvs)) (q : Q (.bl false) H) : rIsi K [.ref a, .ty "list"] H Q := rd_isi (.ty _) (.base (.dK e)) (kit_ty (by decide +kernel)) q
theorem rd_isi_dK_bool (e : H a = some (.dK kvs)) (q : Q (.bl false) H) : rIsi K [.ref a, .ty "bool"] H Q := rd_isi (.ty _) (.base (.dK e)) (kit_ty (by decide +kernel)) q
theorem rd_isi_dK_int (e : H a = some (.dK kvs)) (q : Q (.bl false) H) : rIsi K [.ref a, .ty "int"] H Q := rd_isi (.ty _) (.base (.dK e)) (kit_ty (by decide +kernel)) q
theorem rd_isi_dK_str (e : H a = some (.dK kvs)) (q : Q (.bl false) H) : rIsi K [.ref a, .ty "str"] H Q := rd_isi (.ty _) (.base (.dK e)) (kit_ty (by decide +kernel)) q
variable (K)
def sp_x_law_likeD (n : Nat) : Sp := fun vs H Q _ => ∃ v w, vs = [v, w] ∧ (AlX K H n v w ∨ (0 < n ∧ ∃ a b kvs, v = .ref a ∧ w = .ref b ∧ H a = some (.dK kvs) ∧ H b = some (.dK kvs) ∧ FlatD kvs)) ∧ ∀ H', Same H H' → Q (.bl true) H'
variable {K}
theorem rd_likeX (h : AlX K H n v w) (q : ∀ H', Same H H' → Q (.bl true) H') : sp_x_law_likeD K n [v, w] H Q E := ⟨v, w, rfl, .inl h, q⟩
theorem rd_likeD (hn : 0 < n) (h1 : H a = some (.dK kvs)) (h2 : H b = some (.dK kvs)) (fl : FlatD kvs) (q : ∀ H', Same H H' → Q (.bl true) H') : sp_x_law_likeD K n [.ref a, .ref b] H Q E := ⟨_, _, rfl, .inr ⟨hn, a, b, kvs, rfl, rfl, h1, h2, fl⟩, q⟩
theorem kvM_flat (nd : (ls.map (·.1)).Nodup) : FlatD (kvM ls) := by
  intro p hp
  unfold kvM at hp
  obtain ⟨c, hc, rfl⟩ := List.mem_map.mp hp
  refine ⟨?_, rfl⟩
  rw [kvM_val]
  have : gL ls c.1 = some c.2 := by
    clear hp
    induction ls with
    | nil => cases hc
    | cons q r ih =>
      rw [gL_cons]
      rw [List.map_cons, List.nodup_cons] at nd
      rcases List.mem_cons.mp hc with rfl | hc
      · rw [if_pos rfl]
      · rw [if_neg (fun z => nd.1 (List.mem_map.mpr ⟨c, hc, z.symm⟩))]
        exact ih nd.2 hc
  rw [this]; rfl
theorem knownL_nd (f : Nat → Nat) (ls : List (Nat × Nat)) (n : Nat) : ((knownL f ls n).map (·.1)).Nodup := by
  have e : (knownL f ls n).map (·.1) = (List.range n).filter fun k => (gL ls (f k)).isSome := by
    unfold knownL
    induction (List.range n) with
    | nil => rfl
    | cons k r ih =>
      rw [List.filterMap_cons, List.filter_cons]
      cases e : gL ls (f k) with
      | none => simpa using ih
      | some c => simpa using ih
  rw [e]
  exact List.Pairwise.filter _ List.nodup_range
theorem rd_mkReader (tx : TX K CT CP H t ss) (q : ∀ x h d H', Same H H' → H x = none → H h = none → H d = none → Reader K CT CP CK H' x h d ss id [] [] → Q (.ref x) H') : rMk CK (sp_KeyReader_init K CT CP CK) E [.ref t] H Q := by
  intro x dx nx nd ne
  have S1 : Same H (upd (upd H dx (.own x)) x (.ins CK dx [])) := Same.mut (Same.mut (Same.refl _) nd) nx
  refine ⟨x, dx, t, ss, rfl, upd_same, tx.kp (.same S1), fun H' h d B hn hd hx hdx hne R => ⟨rfl, q x h d H' (fun b o e => B _ _ (ne_of_none e nx) (S1 _ _ e)) nx ?_ ?_ R⟩⟩
  · exact Same.back S1 hn
  · exact Same.back S1 hd
/-- lists of numbers, of observations: told alike -/
theorem alX_natV (few : L.length ≤ 1000) (h1 : SqL K H a (natV L)) (h2 : SqL K H b (natV L)) : AlX K H (n + 2) (.ref a) (.ref b) :=
  .inr (.inr (.inr ⟨a, b, _, _, rfl, rfl, .inr ⟨h1, h2⟩, rfl, by rw [natV_len, sizeLine_eq]; omega, fun i x y hx hy => by
    rw [hx] at hy; cases hy
    unfold natV at hx
    rw [List.getElem?_map] at hx
    obtain ⟨k, _, rfl⟩ := Option.map_eq_some_iff.mp hx
    exact .inl ⟨_, rfl, rfl⟩⟩))
theorem obsV_flat {o : Obs} (h : ∀ p w, o = .word p w → w.length ≤ 1000) : ∀ v ∈ obsV o, (∃ i, v = .int i) ∨ (∃ z : Str, v = .str z ∧ z.length ≤ sizeLine) ∨ v = .non := by
  intro v hv
  have s : ∀ z : Str, z.length ≤ 1000 → z.length ≤ sizeLine := fun z h => by rw [sizeLine_eq]; omega
  cases o with
  | see p c =>
    simp only [obsV, List.mem_cons, List.not_mem_nil, or_false] at hv
    rcases hv with rfl | rfl | rfl
    · exact .inr (.inl ⟨_, rfl, s _ (by decide +kernel)⟩)
    · exact .inl ⟨_, rfl⟩
    · exact .inr (.inl ⟨_, rfl, s _ (by show 1 ≤ 1000; decide)⟩)
  | word p w =>
    simp only [obsV, List.mem_cons, List.not_mem_nil, or_false] at hv
    rcases hv with rfl | rfl | rfl
    · exact .inr (.inl ⟨_, rfl, s _ (by decide +kernel)⟩)
    · exact .inl ⟨_, rfl⟩
    · exact .inr (.inl ⟨_, rfl, s _ (by rw [mkS_len]; exact h _ _ rfl)⟩)
  | alike p o =>
    simp only [obsV, List.mem_cons, List.not_mem_nil, or_false] at hv
    rcases hv with rfl | rfl | rfl
    · exact .inr (.inl ⟨_, rfl, s _ (by decide +kernel)⟩)
    · exact .inl ⟨_, rfl⟩
    · exact .inl ⟨_, rfl⟩
theorem obsV_len {o : Obs} : (obsV o).length = 3 := by cases o <;> rfl
theorem alX_obs (ok : ∀ o ∈ ob, ∀ p w, o = .word p w → w.length ≤ 1000) (few : ob.length ≤ 1000) (h1 : SqL K H a ms) (h2 : SqL K H b ns) (s1 : ObsAt K H ms ob) (s2 : ObsAt K H ns ob) : AlX K H (n + 3) (.ref a) (.ref b) :=
  .inr (.inr (.inr ⟨a, b, ms, ns, rfl, rfl, .inr ⟨h1, h2⟩, by rw [s1.1, s2.1], by rw [s1.1, sizeLine_eq]; omega, fun i x y hx hy => by
    have hi : i < ob.length := by rw [← s1.1]; exact (List.getElem?_eq_some_iff.mp hx).1
    have es := List.getElem?_eq_getElem hi
    obtain ⟨p, e1, q1⟩ := s1.2 i _ es
    obtain ⟨p', e2, q2⟩ := s2.2 i _ es
    rw [hx] at e1; cases e1
    rw [hy] at e2; cases e2
    exact alX_flat (obsV_flat (ok _ (List.mem_of_getElem? es))) (by rw [obsV_len, sizeLine_eq]; decide) q1 q2⟩))
end
end L2.Px
set_option Elab.async false
set_option linter.all false
set_option maxRecDepth 100000
set_option maxHeartbeats 1000000
namespace L2.Px
open PySem PySem.Spec PyProof.Rows StX TL
theorem take_add {os : List Op} {k j : Nat} {o : Op} (hk : k ≤ os.length) (hj : j ≤ k) : (os.take k ++ [o]).take j = os.take j := by
  rw [List.take_append_of_le_length (by rw [List.length_take]; omega), List.take_take, Nat.min_eq_left hj]
/-- the rows: each text's steps -/
def RowsAt (K : PySem.W.Frag) (H : Hp) (rs : List V) (ss0 : List Stp) (os : List Op) : Prop := rs.length = os.length + 1 ∧ ∀ j, j ≤ os.length → ∃ l ms, rs[j]? = some (V.ref l) ∧ H l = some (.lst ms) ∧ StepsAt K H ms (runB ss0 (os.take j))
section
variable {K : PySem.W.Frag} {CE C : Addr} {T : List (Addr × Str)} {H H' : Hp} {r lr ld l : Addr} {rs ns ms : List V} {ss0 : List Stp} {os : List Op} {k : Nat} {o : Op}
theorem RowsAt.refs (h : RowsAt K H rs ss0 os) : ∀ v ∈ rs, isRef v = true := by
  intro v hv
  obtain ⟨j, hj⟩ := List.getElem?_of_mem hv
  have hl : j ≤ os.length := by have := (List.getElem?_eq_some_iff.mp hj).1; have := h.1; omega
  obtain ⟨l, ms, e, _⟩ := h.2 j hl
  rw [hj] at e
  cases e
  rfl
theorem RowsAt.km (h : RowsAt K H rs ss0 os) (e : Km C T H H') : RowsAt K H' rs ss0 os := ⟨h.1, fun j hj => let ⟨l, ms, a, b, c⟩ := h.2 j hj; ⟨l, ms, a, e.li (nr_refs c.refs) b, c.km e⟩⟩
/-- what the law of undo and redo holds -/
structure RoS (K : PySem.W.Frag) (T : List (Addr × Str)) (H : Hp) (r lr ld : Addr) (rs ns : List V) (ss0 : List Stp) (os : List Op) : Prop where
  row : RowAt K H r
  tab : LamX.Tabs T H
  rl : H lr = some (.lst rs)
  rows : RowsAt K H rs ss0 os
  dl : H ld = some (.lst ns)
  ops : OpsAt K H ns os
theorem RoS.km (h : RoS K T H r lr ld rs ns ss0 os) (e : Km C T H H') (row : RowAt K H' r) : RoS K T H' r lr ld rs ns ss0 os :=
  ⟨row, e.tabs h.tab, e.li (nr_refs h.rows.refs) h.rl, h.rows.km e, e.li (nr_refs h.ops.refs41) h.dl, h.ops.1, fun j o q => let ⟨v, a, b, c, d⟩ := h.ops.2 j o q; ⟨v, a, b, c, e.tup d⟩⟩
theorem RoS.same (h : RoS K T H r lr ld rs ns ss0 os) (e : Same H H') : RoS K T H' r lr ld rs ns ss0 os := h.km (C := r) (.same e) (h.row.mono e)
theorem RoS.kp (h : RoS K T H r lr ld rs ns ss0 os) (e : Kp H H') (row : RowAt K H' r) : RoS K T H' r lr ld rs ns ss0 os := h.km (C := r) (.kp e) row
theorem RoS.but {x dx : Addr} {fs : List (Str × V)} (h : RoS K T H r lr ld rs ns ss0 os) (b : But x H H') (e : H x = some (.ins CE dx fs)) : RoS K T H' r lr ld rs ns ss0 os := h.km (Km.but (C := CE) b e) (h.row.but b e)
end
end L2.Px
set_option Elab.async false
set_option linter.all false
set_option maxRecDepth 100000
set_option maxHeartbeats 1000000
namespace L2.Px
open PySem PySem.Spec PyProof.Rows StX TL
def opDj : Op → PyData
  | .st (.wr w) => .tuple [.str "write", .str w]
  | .st (.pa f l t) => .tuple [.str "paste", .int (f : Nat), .int (l : Nat), .int (t : Nat)]
  | .re p c => .tuple [.str "retype", .int (p : Nat), .str ⟨#[c]⟩]
section
variable {K : PySem.W.Frag} {H : Hp} {l : Addr} {ms : List V} {os : List Op} {v : V} {o : Op}
theorem dp_opj (h : OpAt K H v o) : Dp K H v (opDj o) := by
  obtain ⟨a, rfl, q⟩ := h
  match o, q with
  | .st (.wr w), q => exact .tup q (.cons (.str _) (.cons (.str _) .nil))
  | .st (.pa f l t), q => exact .tup q (.cons (.str _) (.cons (.int _) (.cons (.int _) (.cons (.int _) .nil))))
  | .re p c, q => exact .tup q (.cons (.str _) (.cons (.int _) (.cons (.str _) .nil)))
theorem dp_opAllj : ∀ {ms : List V} {os : List Op}, ms.length = os.length → (∀ (j : Nat) o, os[j]? = some o → ∃ v, ms[j]? = some v ∧ OpAt K H v o) → DpAll K H ms (os.map opDj)
  | [], [], _, _ => .nil
  | [], _ :: _, h, _ => by simp at h
  | _ :: _, [], h, _ => by simp at h
  | m :: ms, o :: os, hl, h => by
    obtain ⟨v, e, q⟩ := h 0 o rfl
    cases e
    exact .cons (dp_opj q) (dp_opAllj (by simpa using hl) fun j o' hj => h (j + 1) o' hj)
theorem dp_opsj (hl : H l = some (.lst ms)) (h : OpsAt K H ms os) : Dp K H (.ref l) (.list (os.map opDj)) := .lst (SqL.of hl) (dp_opAllj h.1 h.2)
end
theorem opDj_ok {ss : List Stp} {o : Op} (h : okOp ss o) : DOk 1 (opDj o) := by
  have hs : ∀ z : Str, (∀ x ∈ tl z, x ≤ 122) → DOk 0 (.str z) := fun z hz => .str (strOk_of hz)
  have k1 : ∀ x ∈ tl ("write" : Str), x ≤ 122 := by decide +kernel
  have k2 : ∀ x ∈ tl ("paste" : Str), x ≤ 122 := by decide +kernel
  have k3 : ∀ x ∈ tl ("retype" : Str), x ≤ 122 := by decide +kernel
  cases o with
  | st s =>
    cases s with
    | wr w =>
      refine .tup fun d hd => ?_
      rcases List.mem_cons.mp hd with hd | hd
      · rw [hd]; exact hs _ k1
      · rw [List.mem_singleton.mp hd]; exact hs _ fun x hx => (h.1.2.2 x hx).2
    | pa f l t =>
      refine .tup fun d hd => ?_
      rcases List.mem_cons.mp hd with hd | hd
      · rw [hd]; exact hs _ k2
      · rcases List.mem_cons.mp hd with hd | hd
        · rw [hd]; exact .int
        · rcases List.mem_cons.mp hd with hd | hd
          · rw [hd]; exact .int
          · rw [List.mem_singleton.mp hd]; exact .int
  | re p c =>
    refine .tup fun d hd => ?_
    rcases List.mem_cons.mp hd with hd | hd
    · rw [hd]; exact hs _ k3
    · rcases List.mem_cons.mp hd with hd | hd
      · rw [hd]; exact .int
      · rw [List.mem_singleton.mp hd]
        exact hs _ fun x hx => by cases List.mem_singleton.mp (show x ∈ [c] from hx); exact h.2.2
theorem ops_dokj {os : List Op} (h : ∀ o ∈ os, ∃ ss, okOp ss o) : DOk 2 (.list (os.map opDj)) := .lst fun d hd => by
  obtain ⟨o, ho, rfl⟩ := List.mem_map.mp hd
  obtain ⟨ss, hs⟩ := h o ho
  exact opDj_ok hs
section
variable {K : PySem.W.Frag} {CT CP CE : Addr} {G H : Hp} {Q : VK} {l l' : Addr} {ms ms' : List V} {ss : List Stp} {os : List Op}
theorem rd_eqOpsj (h1 : H l = some (.lst ms)) (o1 : OpsAt K H ms os) (h2 : H l' = some (.lst ms')) (o2 : OpsAt K H ms' os) (ok : ∀ o ∈ os, ∃ ss, okOp ss o) (q : Q (.bl true) H) : rEqA K (.ref l) (.ref l') H Q :=
  rd_eq_same (dp_opsj h1 o1) (dp_opsj h2 o2) (ops_dokj ok) (by decide) q
end
end L2.Px
set_option Elab.async false
set_option linter.all false
set_option maxRecDepth 100000
set_option maxHeartbeats 1000000
namespace L2.Px
open PySem PySem.Spec PyProof.Rows StX TL ClX LamX
section
variable {J : It} {n : Nat} {it : Nat → V} {H1 : Hp} {te : TE} {vs : List Nat} {σ : St} {D : Addr} {Qd : Hp → Prop} {j : Nat}
/-- lc_rel, steps and mono told that the list itself stands -/
theorem lc_relE (P : Plain J n it H1) (hD : H1 D = none) (hn : n ≤ sizeLine) (hj : ∀ v, wipe ((wipe σ vs).set j (some v)) vs = wipe σ vs) (Rl : Nat → V → Hp → Prop) (mono : ∀ i y H H' l, H D = some (.lst l) → But D H H' → Rl i y H → Rl i y H')
    (hs : ∀ i H (Q : VK), i < n → Same H1 H → H D ≠ none → (∀ y H', Same H H' → Rl i y H' → Q y H') → te ((wipe σ vs).set j (some (it i))) H Q)
    (hd : ∀ H ys, Same H1 H → H D = some (.lst ys) → ys.length = n → (∀ i, i < n → ∃ y, ys[i]? = some y ∧ Rl i y H) → Qd H) : LcW J (gName j) tYes te vs σ H1 D Qd := by
  refine ⟨fun i m H => m = n - i ∧ i ≤ n ∧ Same H1 H ∧ ∃ ys, H D = some (.lst ys) ∧ ys.length = i ∧ ∀ k, k < i → ∃ y, ys[k]? = some y ∧ Rl k y H, ⟨_, rfl, Nat.zero_le _, Same.new (Same.refl _) hD, [], upd_same, rfl, fun k hk => absurd hk (Nat.not_lt_zero _)⟩, ?_⟩
  rintro i m H ⟨rfl, hi, S, ys, eD, hl, hr⟩
  by_cases hlt : i < n
  · refine .inr ⟨P.go i H S hlt, fun H' => i + 1 ≤ n ∧ Same H1 H' ∧ ∃ ys, H' D = some (.lst ys) ∧ ys.length = i + 1 ∧ ∀ k, k < i + 1 → ∃ y, ys[k]? = some y ∧ Rl k y H', fun H' z => ⟨n - (i + 1), by omega, rfl, z⟩, fun x H' y => ?_⟩
    obtain ⟨e1, e2⟩ := P.yld i H x H' S hlt y
    subst e1 e2
    refine ⟨hj _, ?_⟩
    refine rd_yes (iteT ?_)
    refine hs i H' _ hlt S (by rw [eD]; simp) fun y2 H2 S2 r => ⟨ys, S2 _ _ eD, by omega, hlt, Same.mut (S.trans S2) hD, ys ++ [y2], upd_same, by simp [hl], fun k hk => ?_⟩
    by_cases hki : k < i
    · obtain ⟨y', h1, h2⟩ := hr k hki
      exact ⟨y', by rw [List.getElem?_append_left (by omega)]; exact h1, mono _ _ _ _ _ eD (But.at (But.same S2)) h2⟩
    · have ek : k = i := by omega
      subst ek
      exact ⟨y2, by rw [List.getElem?_append_right (by omega), hl]; simp, mono _ _ _ _ _ (S2 _ _ eD) (But.at But.refl) r⟩
  · have e : i = n := by omega
    subst e
    exact .inl ⟨P.stop H S, hd H ys S eD hl hr⟩
end
section
variable {K : PySem.W.Frag} {H H' H0 : Hp} {l l' D : Addr} {os : List Op} {ob : List Obs} {L : List Nat} {i n : Nat} {y : V} {ms xs : List V}
/-- the list at l: operations, observations, numbers -/
def Got (K : PySem.W.Frag) (os : List Op) (ob : List Obs) (L : List Nat) (i : Nat) (l : Addr) (H : Hp) : Prop := match i with
  | 0 => ∃ ms, H l = some (.lst ms) ∧ OpsAt K H ms os
  | 1 => ∃ ms, H l = some (.lst ms) ∧ ObsAt K H ms ob
  | _ => H l = some (.lst (natV L))
theorem SqT.butL {a : Addr} (h : SqT K H a xs) (eD : H D = some (.lst ms)) (B : But D H H') : SqT K H' a xs := by
  rcases h with (h | ⟨o, h⟩) | h
  · exact .inl (.inl (B _ _ (fun z => by subst z; rw [eD] at h; cases h) h))
  · exact .inl (.inr ⟨o, B _ _ (fun z => by subst z; rw [eD] at h; cases h) h⟩)
  · exact .inr h
theorem Got.but (g : Got K os ob L i l H) (eD : H D = some (.lst xs)) (B : But D H H') (ne : l ≠ D) : Got K os ob L i l H' := by
  match i, g with
  | 0, ⟨ms, e, h1, h2⟩ => exact ⟨ms, B _ _ ne e, h1, fun j o q => let ⟨v, a, b, c, d⟩ := h2 j o q; ⟨v, a, b, c, SqT.butL d eD B⟩⟩
  | 1, ⟨ms, e, h1, h2⟩ => exact ⟨ms, B _ _ ne e, h1, fun j o q => let ⟨v, a, c⟩ := h2 j o q; ⟨v, a, SqT.butL c eD B⟩⟩
  | i + 2, g => exact B _ _ ne g
theorem Got.same (g : Got K os ob L i l H) (S : Same H H') : Got K os ob L i l H' := by
  match i, g with
  | 0, ⟨ms, e, h⟩ => exact ⟨ms, S _ _ e, h.mono S⟩
  | 1, ⟨ms, e, h⟩ => exact ⟨ms, S _ _ e, h.mono S⟩
  | i + 2, g => exact S _ _ g
theorem Got.lst (g : Got K os ob L i l H) (h1 : os.length ≤ 1000) (h2 : ob.length ≤ 1000) (h3 : L.length ≤ 1000) : ∃ ms, H l = some (.lst ms) ∧ ms.length ≤ 1000 := by
  match i, g with
  | 0, ⟨ms, e, h⟩ => exact ⟨ms, e, by rw [h.1]; exact h1⟩
  | 1, ⟨ms, e, h⟩ => exact ⟨ms, e, by rw [h.1]; exact h2⟩
  | i + 2, g => exact ⟨_, g, by rw [natV_len]; exact h3⟩
/-- a copy -/
theorem Got.copy (g : Got K os ob L i l H) (e : H l = some (.lst ms)) (S : Same H H') (e' : H' l' = some (.lst ms)) : Got K os ob L i l' H' := by
  match i, g with
  | 0, ⟨ms', e1, h⟩ => rw [e] at e1; cases e1; exact ⟨ms, e', h.mono S⟩
  | 1, ⟨ms', e1, h⟩ => rw [e] at e1; cases e1; exact ⟨ms, e', h.mono S⟩
  | i + 2, g => have g : H l = some (.lst (natV L)) := g; rw [e] at g; cases g; exact e'
theorem Got.alX (g : Got K os ob L i l H) (g' : Got K os ob L i l' H) (ok : ∀ o ∈ os, ∃ ss, okOp ss o) (ok2 : ∀ o ∈ ob, ∀ p w, o = .word p w → w.length ≤ 1000) (h1 : os.length ≤ 1000) (h2 : ob.length ≤ 1000) (h3 : L.length ≤ 1000) : AlX K H (n + 3) (.ref l) (.ref l') := by
  match i, g, g' with
  | 0, ⟨ms, e, h⟩, ⟨ms', e', h'⟩ => exact alX_ops ok h1 (SqL.of e) (SqL.of e') h h'
  | 1, ⟨ms, e, h⟩, ⟨ms', e', h'⟩ => exact alX_obs ok2 h2 (SqL.of e) (SqL.of e') h h'
  | i + 2, g, g' => exact alX_natV (n := n + 1) h3 (SqL.of (show H l = some (.lst (natV L)) from g)) (SqL.of (show H l' = some (.lst (natV L)) from g'))
/-- the three lists of a list -/
structure Gots (K : PySem.W.Frag) (os : List Op) (ob : List Obs) (L : List Nat) (H : Hp) (l l0 l1 l2 : Addr) : Prop where
  el : H l = some (.lst [.ref l0, .ref l1, .ref l2])
  g0 : Got K os ob L 0 l0 H
  g1 : Got K os ob L 1 l1 H
  g2 : Got K os ob L 2 l2 H
variable {l0 l1 l2 m0 m1 m2 : Addr}
theorem Gots.same (g : Gots K os ob L H l l0 l1 l2) (S : Same H H') : Gots K os ob L H' l l0 l1 l2 := ⟨S _ _ g.el, g.g0.same S, g.g1.same S, g.g2.same S⟩
theorem gots_of {ys : List V} (e : H l = some (.lst ys)) (hl : ys.length = 3) (P : Addr → Prop) (h : ∀ i, i < 3 → ∃ y, ys[i]? = some y ∧ ∃ a, y = V.ref a ∧ P a ∧ Got K os ob L i a H) : ∃ l0 l1 l2, Gots K os ob L H l l0 l1 l2 ∧ P l0 ∧ P l1 ∧ P l2 := by
  obtain ⟨_, e0, a0, rfl, p0, g0⟩ := h 0 (by decide)
  obtain ⟨_, e1, a1, rfl, p1, g1⟩ := h 1 (by decide)
  obtain ⟨_, e2, a2, rfl, p2, g2⟩ := h 2 (by decide)
  match ys, hl with
  | [x, y, z], _ =>
    cases e0; cases e1; cases e2
    exact ⟨a0, a1, a2, ⟨e, g0, g1, g2⟩, p0, p1, p2⟩
theorem Gots.alX (g : Gots K os ob L H l l0 l1 l2) (g' : Gots K os ob L H l' m0 m1 m2) (ok : ∀ o ∈ os, ∃ ss, okOp ss o) (ok2 : ∀ o ∈ ob, ∀ p w, o = .word p w → w.length ≤ 1000) (h1 : os.length ≤ 1000) (h2 : ob.length ≤ 1000) (h3 : L.length ≤ 1000) : AlX K H (n + 4) (.ref l) (.ref l') :=
  .inr (.inr (.inr ⟨l, l', _, _, rfl, rfl, .inr ⟨SqL.of g.el, SqL.of g'.el⟩, rfl, by rw [sizeLine_eq]; show 3 ≤ 16777216; decide, fun i x y hx hy => by
    match i, hx, hy with
    | 0, hx, hy => cases hx; cases hy; exact g.g0.alX g'.g0 ok ok2 h1 h2 h3
    | 1, hx, hy => cases hx; cases hy; exact g.g1.alX g'.g1 ok ok2 h1 h2 h3
    | 2, hx, hy => cases hx; cases hy; exact g.g2.alX g'.g2 ok ok2 h1 h2 h3
    | i + 3, hx, hy => simp at hx⟩))
/-- what is not in A stays -/
theorem Got.bt {A : List Addr} (g : Got K os ob L i l H) (B : Bt A H H') (hl : l ∉ A) (hA : ∀ a ∈ A, (∃ ms, H a = some (.lst ms)) ∨ ∃ kvs, H a = some (.dK kvs)) : Got K os ob L i l H' := by
  have tp : ∀ {a xs}, SqT K H a xs → SqT K H' a xs := fun {a xs} h => by
    have nA : ∀ {u}, H a = some u → (∀ ms, u ≠ .lst ms) → (∀ ms, u ≠ .dK ms) → a ∉ A := fun {u} e n n' z => by
      rcases hA a z with ⟨ms, em⟩ | ⟨ms, em⟩
      · rw [e] at em; cases em; exact n _ rfl
      · rw [e] at em; cases em; exact n' _ rfl
    rcases h with (h | ⟨o, h⟩) | h
    · exact .inl (.inl (B _ _ (nA h (fun _ z => nomatch z) (fun _ z => nomatch z)) h))
    · exact .inl (.inr ⟨o, B _ _ (nA h (fun _ z => nomatch z) (fun _ z => nomatch z)) h⟩)
    · exact .inr h
  match i, g with
  | 0, ⟨ms, e, h1, h2⟩ => exact ⟨ms, B _ _ hl e, h1, fun j o q => let ⟨v, a, b, c, d⟩ := h2 j o q; ⟨v, a, b, c, tp d⟩⟩
  | 1, ⟨ms, e, h1, h2⟩ => exact ⟨ms, B _ _ hl e, h1, fun j o q => let ⟨v, a, c⟩ := h2 j o q; ⟨v, a, tp c⟩⟩
  | i + 2, g => exact B _ _ hl g
theorem openH_len (f : Nat → Nat) (ls : List (Nat × Nat)) (n : Nat) : (openH f ls n).length ≤ n := by
  have := List.length_filter_le (fun k => decide (f k = k) && (gL ls k).isNone) (List.range n)
  rw [List.length_range] at this
  exact this
/-- one more in one of three lists -/
theorem three_app {A : List Addr} {k : Nat} {a : Addr} {v : V} (h : ∀ b ∈ A, ∃ ms, H b = some (.lst ms) ∧ ms.length ≤ k) (ha : a ∈ A) (e : H a = some (.lst ms)) :
    Bt A H (upd H a (.lst (ms ++ [v]))) ∧ ∀ b ∈ A, ∃ ms', upd H a (.lst (ms ++ [v])) b = some (.lst ms') ∧ ms'.length ≤ k + 1 := by
  refine ⟨Bt.but (But.at But.refl) ha, fun b hb => ?_⟩
  by_cases z : b = a
  · subst z
    obtain ⟨m', e1, e2⟩ := h b hb
    rw [e] at e1; cases e1
    exact ⟨_, upd_same, by rw [List.length_append, List.length_singleton]; omega⟩
  · obtain ⟨m', e1, e2⟩ := h b hb
    exact ⟨m', by rw [upd_ne z]; exact e1, by omega⟩
end
section
variable {K : PySem.W.Frag} {CT CP CK : Addr} {H : Hp} {x h d : Addr} {ss : List Stp} {f : Nat → Nat} {ls : List (Nat × Nat)} {ob : List Obs} {Q : VK} {E : XK}
theorem rd_rdKnown (r : Reader K CT CP CK H x h d ss f ls ob) (q : ∀ H' p, Same H H' → H p = none → H' p = some (.dK (kvM (knownL f ls (tyL ss).length))) → Q (.ref p) H') : ∃ a' dx fs, V.ref x = .ref a' ∧ H a' = some (.ins CK dx fs) ∧ sp_KeyReader_known_letters K CT CP CK [.ref a'] H Q E := by
  obtain ⟨i, e⟩ := id r
  exact ⟨x, _, _, rfl, e.ins, x, h, d, ss, f, ls, ob, rfl, r, q⟩
theorem rd_rdObs (r : Reader K CT CP CK H x h d ss f ls ob) (ho : ob.length ≤ 10000) (q : ∀ H' p ms, Same H H' → H p = none → H' p = some (.lst ms) → ObsAt K H' ms ob → Q (.ref p) H') : ∃ a' dx fs, V.ref x = .ref a' ∧ H a' = some (.ins CK dx fs) ∧ sp_KeyReader_observations K CT CP CK [.ref a'] H Q E := by
  obtain ⟨i, e⟩ := id r
  exact ⟨x, _, _, rfl, e.ins, x, h, d, ss, f, ls, ob, rfl, r, ho, q⟩
end
section
variable {K : PySem.W.Frag} {CT CP CE : Addr} {H : Hp} {e : Addr} {ss : List Stp} {ds us : List Ent} {v : V} {o : Op} {Qg : List V → Hp → Prop}
theorem OpsAt.one1 (h : OpAt K H v o) : OpsAt K H [v] [o] := ⟨rfl, fun j o' hj => by
  cases j with
  | zero => cases hj; exact ⟨v, rfl, h⟩
  | succ j => simp at hj⟩
theorem rd_sizes51 {Ex : XK} (h : EdAt K CT CP CE H e ss ds us) (ho : OpAt K H v o) (ok : okOp ss o) (q : ∀ H', Same H H' → Qg (natV [sz (aft ss o)]) H') : spStarG 1 (spg_Editor_sizes_after K CT CP CE) [.ref e, v] H Qg Ex := by
  refine ⟨[.ref e], [v], rfl, rfl, by rw [sizeLine_eq]; show 1 ≤ 16777216; decide, fun p np => ?_⟩
  have S : Same H (upd H p (.tup [v])) := Same.new (Same.refl _) np
  exact ⟨e, p, [v], [o], ss, ds, us, rfl, h.same S, SqT.of upd_same, OpsAt.one1 (let ⟨a, b, c⟩ := ho; ⟨a, b, Same.tup S c⟩), ⟨ok, trivial⟩, by simp, fun H' S' => q H' (Same.trans S S')⟩
end
end L2.Px
set_option Elab.async false
set_option linter.all false
set_option maxRecDepth 100000
set_option maxHeartbeats 4000000
namespace L2.Px
open PySem PySem.Spec PyProof.Rows StX TL ClX
def top (i : Nat) : Stmt := PySem.Challenge.pw_pastekeys_k51_whole_repeated_calls.main.body.getD i (.Pass ⟨0, 0, 0, 0⟩)
abbrev s_is_integer : Stmt := top 18
abbrev N_is_integer : List Str := ["value", "low", "high"]
theorem sc_is_integer : FnScope N_is_integer ["value", "low", "high"] (defScope s_is_integer) := ⟨rfl, rfl, rfl, by decide +kernel, rfl, by decide +kernel, by decide +kernel⟩
abbrev s_is_letter : Stmt := top 19
abbrev N_is_letter : List Str := ["value"]
theorem sc_is_letter : FnScope N_is_letter ["value"] (defScope s_is_letter) := ⟨rfl, rfl, rfl, by decide +kernel, rfl, by decide +kernel, by decide +kernel⟩
abbrev s_is_word : Stmt := top 20
abbrev N_is_word : List Str := ["value", "letter"]
theorem sc_is_word : FnScope N_is_word ["value"] (defScope s_is_word) := ⟨rfl, rfl, rfl, by decide +kernel, rfl, by decide +kernel, by decide +kernel⟩
abbrev s_is_step : Stmt := top 21
abbrev N_is_step : List Str := ["value", "size", "word", "first", "last", "times"]
theorem sc_is_step : FnScope N_is_step ["value", "size"] (defScope s_is_step) := ⟨rfl, rfl, rfl, by decide +kernel, rfl, by decide +kernel, by decide +kernel⟩
abbrev s_Part_init : Stmt := inClass (top 22) 0
abbrev N_Part_init : List Str := ["self", "start", "length", "is_typed", "first", "last"]
theorem sc_Part_init : FnScope N_Part_init ["self", "start", "length", "is_typed", "first", "last"] (defScope s_Part_init) := ⟨rfl, rfl, rfl, by decide +kernel, rfl, by decide +kernel, by decide +kernel⟩
abbrev s_Part_source : Stmt := inClass (top 22) 1
abbrev N_Part_source : List Str := ["self", "place"]
theorem sc_Part_source : FnScope N_Part_source ["self", "place"] (defScope s_Part_source) := ⟨rfl, rfl, rfl, by decide +kernel, rfl, by decide +kernel, by decide +kernel⟩
abbrev s_Text_init : Stmt := inClass (top 23) 1
abbrev N_Text_init : List Str := ["self", "steps", "parts", "typed", "total", "index", "step"]
theorem sc_Text_init : FnScope N_Text_init ["self", "steps"] (defScope s_Text_init) := ⟨rfl, rfl, rfl, by decide +kernel, rfl, by decide +kernel, by decide +kernel⟩
abbrev s_Text_steps : Stmt := inClass (top 23) 4
abbrev N_Text_steps : List Str := ["self"]
theorem sc_Text_steps : FnScope N_Text_steps ["self"] (defScope s_Text_steps) := ⟨rfl, rfl, rfl, by decide +kernel, rfl, by decide +kernel, by decide +kernel⟩
abbrev s_Text_typed_keys : Stmt := inClass (top 23) 5
abbrev N_Text_typed_keys : List Str := ["self"]
theorem sc_Text_typed_keys : FnScope N_Text_typed_keys ["self"] (defScope s_Text_typed_keys) := ⟨rfl, rfl, rfl, by decide +kernel, rfl, by decide +kernel, by decide +kernel⟩
abbrev s_Text_size : Stmt := inClass (top 23) 6
abbrev N_Text_size : List Str := ["self"]
theorem sc_Text_size : FnScope N_Text_size ["self"] (defScope s_Text_size) := ⟨rfl, rfl, rfl, by decide +kernel, rfl, by decide +kernel, by decide +kernel⟩
abbrev s_Text_check_place : Stmt := inClass (top 23) 8
abbrev N_Text_check_place : List Str := ["self", "place"]
theorem sc_Text_check_place : FnScope N_Text_check_place ["self", "place"] (defScope s_Text_check_place) := ⟨rfl, rfl, rfl, by decide +kernel, rfl, by decide +kernel, by decide +kernel⟩
abbrev s_Text_check_key : Stmt := inClass (top 23) 9
abbrev N_Text_check_key : List Str := ["self", "key"]
theorem sc_Text_check_key : FnScope N_Text_check_key ["self", "key"] (defScope s_Text_check_key) := ⟨rfl, rfl, rfl, by decide +kernel, rfl, by decide +kernel, by decide +kernel⟩
abbrev s_Text_key_of : Stmt := inClass (top 23) 10
abbrev N_Text_key_of : List Str := ["self", "place", "number", "part"]
theorem sc_Text_key_of : FnScope N_Text_key_of ["self", "place"] (defScope s_Text_key_of) := ⟨rfl, rfl, rfl, by decide +kernel, rfl, by decide +kernel, by decide +kernel⟩
abbrev s_Text_call : Stmt := inClass (top 23) 11
abbrev N_Text_call : List Str := ["self", "place"]
theorem sc_Text_call : FnScope N_Text_call ["self", "place"] (defScope s_Text_call) := ⟨rfl, rfl, rfl, by decide +kernel, rfl, by decide +kernel, by decide +kernel⟩
abbrev s_Text_getitem : Stmt := inClass (top 23) 12
abbrev N_Text_getitem : List Str := ["self", "place"]
theorem sc_Text_getitem : FnScope N_Text_getitem ["self", "place"] (defScope s_Text_getitem) := ⟨rfl, rfl, rfl, by decide +kernel, rfl, by decide +kernel, by decide +kernel⟩
abbrev s_Text_retyped : Stmt := inClass (top 23) 17
abbrev N_Text_retyped : List Str := ["self", "key", "letter", "steps", "number", "step", "place", "word"]
theorem sc_Text_retyped : FnScope N_Text_retyped ["self", "key", "letter"] (defScope s_Text_retyped) := ⟨rfl, rfl, rfl, by decide +kernel, rfl, by decide +kernel, by decide +kernel⟩
abbrev s_is_operation : Stmt := top 33
abbrev N_is_operation : List Str := ["value"]
theorem sc_is_operation : FnScope N_is_operation ["value"] (defScope s_is_operation) := ⟨rfl, rfl, rfl, by decide +kernel, rfl, by decide +kernel, by decide +kernel⟩
abbrev s_InvalidStep_init : Stmt := inClass (top 3) 0
abbrev N_InvalidStep_init : List Str := ["self", "index"]
theorem sc_InvalidStep_init : FnScope N_InvalidStep_init ["self", "index"] (defScope s_InvalidStep_init) := ⟨rfl, rfl, rfl, by decide +kernel, rfl, by decide +kernel, by decide +kernel⟩
abbrev s_Counter_init : Stmt := inClass (top 28) 0
abbrev N_Counter_init : List Str := ["self", "text"]
theorem sc_Counter_init : FnScope N_Counter_init ["self", "text"] (defScope s_Counter_init) := ⟨rfl, rfl, rfl, by decide +kernel, rfl, by decide +kernel, by decide +kernel⟩
abbrev s_Counter_before : Stmt := inClass (top 28) 1
abbrev N_Counter_before : List Str := ["self", "place"]
theorem sc_Counter_before : FnScope N_Counter_before ["self", "place"] (defScope s_Counter_before) := ⟨rfl, rfl, rfl, by decide +kernel, rfl, by decide +kernel, by decide +kernel⟩
abbrev s_Counter_counts_before : Stmt := inClass (top 28) 2
abbrev N_Counter_counts_before : List Str := ["self", "place", "part", "one", "counts", "size", "key", "length", "rounds", "rest", "low", "high", "some", "found", "count"]
theorem sc_Counter_counts_before : FnScope N_Counter_counts_before ["self", "place"] (defScope s_Counter_counts_before) := ⟨rfl, rfl, rfl, by decide +kernel, rfl, by decide +kernel, by decide +kernel⟩
abbrev s_check_range : Stmt := top 29
abbrev N_check_range : List Str := ["text", "first", "last"]
theorem sc_check_range : FnScope N_check_range ["text", "first", "last"] (defScope s_check_range) := ⟨rfl, rfl, rfl, by decide +kernel, rfl, by decide +kernel, by decide +kernel⟩
abbrev s_key_counts : Stmt := top 30
abbrev N_key_counts : List Str := ["text", "first", "last", "counter", "low", "high"]
theorem sc_key_counts : FnScope N_key_counts ["text", "first", "last"] (defScope s_key_counts) := ⟨rfl, rfl, rfl, by decide +kernel, rfl, by decide +kernel, by decide +kernel⟩
abbrev s_Editor_init : Stmt := inClass (top 34) 0
abbrev N_Editor_init : List Str := ["self", "steps"]
theorem sc_Editor_init : FnScope N_Editor_init ["self", "steps"] (defScope s_Editor_init) := ⟨rfl, rfl, rfl, by decide +kernel, rfl, by decide +kernel, by decide +kernel⟩
abbrev s_Editor_enter : Stmt := inClass (top 34) 7
abbrev N_Editor_enter : List Str := ["self", "operation", "after"]
theorem sc_Editor_enter : FnScope N_Editor_enter ["self", "operation", "after"] (defScope s_Editor_enter) := ⟨rfl, rfl, rfl, by decide +kernel, rfl, by decide +kernel, by decide +kernel⟩
abbrev s_Editor_present_text : Stmt := inClass (top 34) 4
abbrev N_Editor_present_text : List Str := ["self"]
theorem sc_Editor_present_text : FnScope N_Editor_present_text ["self"] (defScope s_Editor_present_text) := ⟨rfl, rfl, rfl, by decide +kernel, rfl, by decide +kernel, by decide +kernel⟩
abbrev s_Editor_len : Stmt := inClass (top 34) 6
abbrev s_Editor_history : Stmt := inClass (top 34) 5
abbrev N_Editor_history : List Str := ["self", "operation", "before", "after"]
theorem sc_Editor_history : FnScope N_Editor_history ["self"] (defScope s_Editor_history) := ⟨rfl, rfl, rfl, by decide +kernel, rfl, by decide +kernel, by decide +kernel⟩
abbrev s_Editor_apply : Stmt := inClass (top 34) 15
abbrev N_Editor_apply : List Str := ["self", "operations", "index", "operation", "present", "done", "undone", "results", "finished"]
theorem sc_Editor_apply : FnScope N_Editor_apply ["self", "operations"] (defScope s_Editor_apply) := ⟨rfl, rfl, rfl, by decide +kernel, rfl, by decide +kernel, by decide +kernel⟩
abbrev s_Editor_replay : Stmt := inClass (top 34) 3
abbrev N_Editor_replay : List Str := ["cls", "steps", "operations", "editor"]
theorem sc_Editor_replay : FnScope N_Editor_replay ["cls", "steps", "operations"] (defScope s_Editor_replay) := ⟨rfl, rfl, rfl, by decide +kernel, rfl, by decide +kernel, by decide +kernel⟩
abbrev s_Editor_add_step : Stmt := inClass (top 34) 8
abbrev N_Editor_add_step : List Str := ["self", "step", "all_steps"]
theorem sc_Editor_add_step : FnScope N_Editor_add_step ["self", "step"] (defScope s_Editor_add_step) := ⟨rfl, rfl, rfl, by decide +kernel, rfl, by decide +kernel, by decide +kernel⟩
abbrev s_Editor_write : Stmt := inClass (top 34) 9
abbrev N_Editor_write : List Str := ["self", "word"]
theorem sc_Editor_write : FnScope N_Editor_write ["self", "word"] (defScope s_Editor_write) := ⟨rfl, rfl, rfl, by decide +kernel, rfl, by decide +kernel, by decide +kernel⟩
abbrev s_Editor_paste : Stmt := inClass (top 34) 10
abbrev N_Editor_paste : List Str := ["self", "first", "last", "times"]
theorem sc_Editor_paste : FnScope N_Editor_paste ["self", "first", "last", "times"] (defScope s_Editor_paste) := ⟨rfl, rfl, rfl, by decide +kernel, rfl, by decide +kernel, by decide +kernel⟩
abbrev s_Editor_retype : Stmt := inClass (top 34) 11
abbrev N_Editor_retype : List Str := ["self", "place", "letter", "key", "changed", "counts"]
theorem sc_Editor_retype : FnScope N_Editor_retype ["self", "place", "letter"] (defScope s_Editor_retype) := ⟨rfl, rfl, rfl, by decide +kernel, rfl, by decide +kernel, by decide +kernel⟩
abbrev s_Editor_execute : Stmt := inClass (top 34) 14
abbrev N_Editor_execute : List Str := ["self", "operation", "word", "arguments"]
theorem sc_Editor_execute : FnScope N_Editor_execute ["self", "operation"] (defScope s_Editor_execute) := ⟨rfl, rfl, rfl, by decide +kernel, rfl, by decide +kernel, by decide +kernel⟩
abbrev s_Editor_sizes_after : Stmt := inClass (top 34) 16
abbrev N_Editor_sizes_after : List Str := ["self", "operations", "other", "index", "operation"]
theorem sc_Editor_sizes_after : GScope N_Editor_sizes_after ["self", "operations"] (defScope s_Editor_sizes_after) := ⟨rfl, rfl, rfl, by decide +kernel, rfl, by decide +kernel, by decide +kernel⟩
abbrev s_KeyReader_init : Stmt := inClass (top 36) 0
abbrev N_KeyReader_init : List Str := ["self", "text"]
theorem sc_KeyReader_init : FnScope N_KeyReader_init ["self", "text"] (defScope s_KeyReader_init) := ⟨rfl, rfl, rfl, by decide +kernel, rfl, by decide +kernel, by decide +kernel⟩
abbrev s_KeyReader_head : Stmt := inClass (top 36) 1
abbrev N_KeyReader_head : List Str := ["self", "key"]
theorem sc_KeyReader_head : FnScope N_KeyReader_head ["self", "key"] (defScope s_KeyReader_head) := ⟨rfl, rfl, rfl, by decide +kernel, rfl, by decide +kernel, by decide +kernel⟩
abbrev s_KeyReader_accept_letter : Stmt := inClass (top 36) 2
abbrev N_KeyReader_accept_letter : List Str := ["self", "key", "letter", "head"]
theorem sc_KeyReader_accept_letter : FnScope N_KeyReader_accept_letter ["self", "key", "letter"] (defScope s_KeyReader_accept_letter) := ⟨rfl, rfl, rfl, by decide +kernel, rfl, by decide +kernel, by decide +kernel⟩
abbrev s_KeyReader_known_count : Stmt := inClass (top 36) 3
abbrev N_KeyReader_known_count : List Str := ["self", "key"]
theorem sc_KeyReader_known_count : FnScope N_KeyReader_known_count ["self"] (defScope s_KeyReader_known_count) := ⟨rfl, rfl, rfl, by decide +kernel, rfl, by decide +kernel, by decide +kernel⟩
abbrev s_KeyReader_see : Stmt := inClass (top 36) 4
abbrev N_KeyReader_see : List Str := ["self", "place", "letter", "key"]
theorem sc_KeyReader_see : FnScope N_KeyReader_see ["self", "place", "letter"] (defScope s_KeyReader_see) := ⟨rfl, rfl, rfl, by decide +kernel, rfl, by decide +kernel, by decide +kernel⟩
abbrev s_KeyReader_known_letters : Stmt := inClass (top 36) 8
abbrev N_KeyReader_known_letters : List Str := ["self", "found", "key", "head"]
theorem sc_KeyReader_known_letters : FnScope N_KeyReader_known_letters ["self"] (defScope s_KeyReader_known_letters) := ⟨rfl, rfl, rfl, by decide +kernel, rfl, by decide +kernel, by decide +kernel⟩
abbrev s_KeyReader_observations : Stmt := inClass (top 36) 9
abbrev N_KeyReader_observations : List Str := ["self"]
theorem sc_KeyReader_observations : FnScope N_KeyReader_observations ["self"] (defScope s_KeyReader_observations) := ⟨rfl, rfl, rfl, by decide +kernel, rfl, by decide +kernel, by decide +kernel⟩
abbrev s_KeyReader_open_heads : Stmt := inClass (top 36) 12
abbrev N_KeyReader_open_heads : List Str := ["self", "key"]
theorem sc_KeyReader_open_heads : FnScope N_KeyReader_open_heads ["self"] (defScope s_KeyReader_open_heads) := ⟨rfl, rfl, rfl, by decide +kernel, rfl, by decide +kernel, by decide +kernel⟩
abbrev s_KeyReader_first_place : Stmt := inClass (top 36) 16
abbrev N_KeyReader_first_place : List Str := ["self", "head", "size", "step"]
theorem sc_KeyReader_first_place : FnScope N_KeyReader_first_place ["self", "head"] (defScope s_KeyReader_first_place) := ⟨rfl, rfl, rfl, by decide +kernel, rfl, by decide +kernel, by decide +kernel⟩
abbrev s_KeyReader_fewest_places : Stmt := inClass (top 36) 15
abbrev N_KeyReader_fewest_places : List Str := ["self", "found", "head"]
theorem sc_KeyReader_fewest_places : FnScope N_KeyReader_fewest_places ["self"] (defScope s_KeyReader_fewest_places) := ⟨rfl, rfl, rfl, by decide +kernel, rfl, by decide +kernel, by decide +kernel⟩
abbrev s_x_law_dice : Stmt := top 38
abbrev N_x_law_dice : List Str := ["_law_script", "_law_mixed", "_law_cell"]
theorem sc_x_law_dice : FnScope N_x_law_dice ["_law_script"] (defScope s_x_law_dice) := ⟨rfl, rfl, rfl, by decide +kernel, rfl, by decide +kernel, by decide +kernel⟩
abbrev s_x_law_next : Stmt := top 39
abbrev N_x_law_next : List Str := ["_law_dice_here", "_law_many", "_law_found", "_law_cell"]
theorem sc_x_law_next : FnScope N_x_law_next ["_law_dice_here", "_law_many"] (defScope s_x_law_next) := ⟨rfl, rfl, rfl, by decide +kernel, rfl, by decide +kernel, by decide +kernel⟩
abbrev s_x_law_pick : Stmt := top 41
abbrev N_x_law_pick : List Str := ["_law_d", "_law_some_here"]
theorem sc_x_law_pick : FnScope N_x_law_pick ["_law_d", "_law_some_here"] (defScope s_x_law_pick) := ⟨rfl, rfl, rfl, by decide +kernel, rfl, by decide +kernel, by decide +kernel⟩
abbrev s_x_law_word : Stmt := top 42
abbrev N_x_law_word : List Str := ["_law_d", "_law_k"]
theorem sc_x_law_word : FnScope N_x_law_word ["_law_d"] (defScope s_x_law_word) := ⟨rfl, rfl, rfl, by decide +kernel, rfl, by decide +kernel, by decide +kernel⟩
abbrev s_x_law_drawn : Stmt := top 43
abbrev N_x_law_drawn : List Str := ["_law_d", "_law_total", "_law_most", "_law_word_here", "_law_first", "_law_last", "_law_times"]
theorem sc_x_law_drawn : FnScope N_x_law_drawn ["_law_d", "_law_total", "_law_most"] (defScope s_x_law_drawn) := ⟨rfl, rfl, rfl, by decide +kernel, rfl, by decide +kernel, by decide +kernel⟩
abbrev s_x_law_made : Stmt := top 44
abbrev N_x_law_made : List Str := ["_law_steps"]
theorem sc_x_law_made : FnScope N_x_law_made ["_law_steps"] (defScope s_x_law_made) := ⟨rfl, rfl, rfl, by decide +kernel, rfl, by decide +kernel, by decide +kernel⟩
abbrev s_x_law_some : Stmt := top 45
abbrev N_x_law_some : List Str := ["_law_d", "_law_count", "_law_most", "_law_word_here", "_law_steps", "_law_total", "_law_k", "_law_step"]
theorem sc_x_law_some : FnScope N_x_law_some ["_law_d", "_law_count", "_law_most"] (defScope s_x_law_some) := ⟨rfl, rfl, rfl, by decide +kernel, rfl, by decide +kernel, by decide +kernel⟩
abbrev s_x_law_like : Stmt := top 40
abbrev N_x_law_like : List Str := ["_law_found", "_law_due", "_law_k"]
theorem sc_x_law_like : FnScope N_x_law_like ["_law_found", "_law_due"] (defScope s_x_law_like) := ⟨rfl, rfl, rfl, by decide +kernel, rfl, by decide +kernel, by decide +kernel⟩
abbrev s_law : Stmt := top 46
abbrev N_law : List Str := ["_law_script", "_law_d", "_law_steps", "_law_text", "_law_editor", "_law_reader", "_law_work", "_law_found", "_law_known", "_law_one", "_law_kept", "_law_same", "_law_pairs"]
theorem sc_law : FnScope N_law ["_law_script"] (defScope s_law) := ⟨rfl, rfl, rfl, by decide +kernel, rfl, by decide +kernel, by decide +kernel⟩
abbrev TL (p_law : Addr) : List (Addr × Str) := [(p_law, ("law" : Str) ++ ".<locals>." ++ "<lambda>")]
structure Lms (K : PySem.W.Frag) (mg : Str → Option Value) (base : Heap) (c_law p_law : Addr) : Prop where
  tb_law : LamX.TabB base mg c_law p_law
  hu_law : ∀ p ∈ TL p_law, p.1 = p_law → p.2 = ("law" : Str) ++ ".<locals>." ++ "<lambda>"
structure Txt (K : PySem.W.Frag) (mg : Str → Option Value) (CText : Addr) (CPart : Addr) (CCounter : Addr) (CEditor : Addr) (CKeyReader : Addr) (CTextError : Addr) (CInvalidStep : Addr) (CTooLong : Addr) (CInvalidPlace : Addr) (CInvalidLetter : Addr) (CARGUMENTS : Addr) (c_law : Addr) (p_law : Addr) (w : World) : Prop where
  d_is_integer : DefG K mg "is_integer" s_is_integer ["value", "low", "high"]
  d_is_letter : DefG K mg "is_letter" s_is_letter ["value"]
  d_is_word : DefG K mg "is_word" s_is_word ["value"]
  d_is_step : DefG K mg "is_step" s_is_step ["value", "size"]
  d_Part_init : DefK K CPart "Part.__init__" s_Part_init ["self", "start", "length", "is_typed", "first", "last"]
  d_Part_source : DefM K CPart "source" "Part.source" s_Part_source ["self", "place"]
  d_Text_init : DefKS K CText "Text.__init__" s_Text_init ["self"] "steps"
  d_Text_steps : DefP K CText "steps" "Text.steps" s_Text_steps
  d_Text_typed_keys : DefP K CText "typed_keys" "Text.typed_keys" s_Text_typed_keys
  d_Text_size : DefP K CText "size" "Text.size" s_Text_size
  d_Text_check_place : DefM K CText "check_place" "Text.check_place" s_Text_check_place ["self", "place"]
  d_Text_check_key : DefM K CText "check_key" "Text.check_key" s_Text_check_key ["self", "key"]
  d_Text_key_of : DefM K CText "key_of" "Text.key_of" s_Text_key_of ["self", "place"]
  d_Text_call : DefX K (CallO K CText) "__call__" "Text.__call__" s_Text_call ["self", "place"]
  d_Text_getitem : DefX K (IOwn K CText) "__getitem__" "Text.__getitem__" s_Text_getitem ["self", "place"]
  d_Text_retyped : DefM K CText "retyped" "Text.retyped" s_Text_retyped ["self", "key", "letter"]
  d_is_operation : DefG K mg "is_operation" s_is_operation ["value"]
  d_InvalidStep_init : DefI K CInvalidStep "InvalidStep.__init__" s_InvalidStep_init ["self", "index"]
  d_Counter_init : DefK K CCounter "Counter.__init__" s_Counter_init ["self", "text"]
  d_Counter_before : DefM K CCounter "before" "Counter.before" s_Counter_before ["self", "place"]
  d_Counter_counts_before : DefM K CCounter "counts_before" "Counter.counts_before" s_Counter_counts_before ["self", "place"]
  d_check_range : DefG K mg "check_range" s_check_range ["text", "first", "last"]
  d_key_counts : DefG K mg "key_counts" s_key_counts ["text", "first", "last"]
  d_Editor_init : DefKS K CEditor "Editor.__init__" s_Editor_init ["self"] "steps"
  d_Editor_enter : DefM K CEditor "enter" "Editor.enter" s_Editor_enter ["self", "operation", "after"]
  d_Editor_present_text : DefP K CEditor "present_text" "Editor.present_text" s_Editor_present_text
  d_Editor_len : DefX K (LOwn K CEditor) "__len__" "Editor.__len__" s_Editor_len ["self"]
  d_Editor_history : DefP K CEditor "history" "Editor.history" s_Editor_history
  d_Editor_apply : DefBS K CEditor "apply" "Editor.apply" s_Editor_apply ["self"] "operations"
  d_Editor_replay : DefC K CEditor "replay" "Editor.replay" s_Editor_replay ["cls", "steps", "operations"]
  d_Editor_add_step : DefM K CEditor "add_step" "Editor.add_step" s_Editor_add_step ["self", "step"]
  d_Editor_write : DefB K CEditor "write" "Editor.write" s_Editor_write ["self", "word"]
  d_Editor_paste : DefB K CEditor "paste" "Editor.paste" s_Editor_paste ["self", "first", "last", "times"]
  d_Editor_retype : DefB K CEditor "retype" "Editor.retype" s_Editor_retype ["self", "place", "letter"]
  d_Editor_execute : DefM K CEditor "execute" "Editor.execute" s_Editor_execute ["self", "operation"]
  d_Editor_sizes_after : DefBS K CEditor "sizes_after" "Editor.sizes_after" s_Editor_sizes_after ["self"] "operations"
  d_KeyReader_init : DefK K CKeyReader "KeyReader.__init__" s_KeyReader_init ["self", "text"]
  d_KeyReader_head : DefM K CKeyReader "head" "KeyReader.head" s_KeyReader_head ["self", "key"]
  d_KeyReader_accept_letter : DefM K CKeyReader "accept_letter" "KeyReader.accept_letter" s_KeyReader_accept_letter ["self", "key", "letter"]
  d_KeyReader_known_count : DefM K CKeyReader "known_count" "KeyReader.known_count" s_KeyReader_known_count ["self"]
  d_KeyReader_see : DefM K CKeyReader "see" "KeyReader.see" s_KeyReader_see ["self", "place", "letter"]
  d_KeyReader_known_letters : DefP K CKeyReader "known_letters" "KeyReader.known_letters" s_KeyReader_known_letters
  d_KeyReader_observations : DefP K CKeyReader "observations" "KeyReader.observations" s_KeyReader_observations
  d_KeyReader_open_heads : DefM K CKeyReader "open_heads" "KeyReader.open_heads" s_KeyReader_open_heads ["self"]
  d_KeyReader_first_place : DefM K CKeyReader "first_place" "KeyReader.first_place" s_KeyReader_first_place ["self", "head"]
  d_KeyReader_fewest_places : DefM K CKeyReader "fewest_places" "KeyReader.fewest_places" s_KeyReader_fewest_places ["self"]
  d_x_law_dice : DefG K mg "_law_dice" s_x_law_dice ["_law_script"]
  d_x_law_next : DefG K mg "_law_next" s_x_law_next ["_law_dice_here", "_law_many"]
  d_x_law_pick : DefG K mg "_law_pick" s_x_law_pick ["_law_d", "_law_some_here"]
  d_x_law_word : DefG K mg "_law_word" s_x_law_word ["_law_d"]
  d_x_law_drawn : DefG K mg "_law_drawn" s_x_law_drawn ["_law_d", "_law_total", "_law_most"]
  d_x_law_made : DefG K mg "_law_made" s_x_law_made ["_law_steps"]
  d_x_law_some : DefG K mg "_law_some" s_x_law_some ["_law_d", "_law_count", "_law_most"]
  d_x_law_like : DefG K mg "_law_like" s_x_law_like ["_law_found", "_law_due"]
  d_law : DefGC K mg "law" s_law ["_law_script"] c_law
  cText : Cls K CText
  g_Text : mg "Text" = some (.ref CText)
  cPart : Cls K CPart
  g_Part : mg "Part" = some (.ref CPart)
  cCounter : Cls K CCounter
  g_Counter : mg "Counter" = some (.ref CCounter)
  cEditor : Cls K CEditor
  g_Editor : mg "Editor" = some (.ref CEditor)
  cKeyReader : Cls K CKeyReader
  g_KeyReader : mg "KeyReader" = some (.ref CKeyReader)
  ne_Text_Part : CText ≠ CPart
  ne_Text_Counter : CText ≠ CCounter
  ne_Text_Editor : CText ≠ CEditor
  ne_Text_KeyReader : CText ≠ CKeyReader
  ne_Part_Counter : CPart ≠ CCounter
  ne_Part_Editor : CPart ≠ CEditor
  ne_Part_KeyReader : CPart ≠ CKeyReader
  ne_Counter_Editor : CCounter ≠ CEditor
  ne_Counter_KeyReader : CCounter ≠ CKeyReader
  ne_Editor_KeyReader : CEditor ≠ CKeyReader
  xb_TextError : XBs K mg "TextError" CTextError
  x_InvalidStep : XOw K mg "InvalidStep" CInvalidStep ["index"]
  x_TooLong : XPl K mg "TooLong" CTooLong
  x_InvalidPlace : XPl K mg "InvalidPlace" CInvalidPlace
  x_InvalidLetter : XPl K mg "InvalidLetter" CInvalidLetter
  g_ARGUMENTS : mg "ARGUMENTS" = some (.ref CARGUMENTS)
  kd_ARGUMENTS : KDt K w CARGUMENTS
  t_law : TabC K c_law p_law
  na_Part_start : NoAttr K CPart "start"
  na_Part_length : NoAttr K CPart "length"
  na_Part_is_typed : NoAttr K CPart "is_typed"
  na_Part_first : NoAttr K CPart "first"
  na_Part_last : NoAttr K CPart "last"
  na_Text_made : NoAttr K CText "made"
  na_Text_typed : NoAttr K CText "typed"
  na_Text_parts : NoAttr K CText "parts"
  na_Text_total : NoAttr K CText "total"
  na_Counter_text : NoAttr K CCounter "text"
  na_Counter_known : NoAttr K CCounter "known"
  na_Editor_present : NoAttr K CEditor "present"
  na_Editor_done : NoAttr K CEditor "done"
  na_Editor_undone : NoAttr K CEditor "undone"
  na_Editor_is_open : NoAttr K CEditor "is_open"
  na_Editor_kept_present : NoAttr K CEditor "kept_present"
  na_Editor_kept_done : NoAttr K CEditor "kept_done"
  na_Editor_kept_undone : NoAttr K CEditor "kept_undone"
  na_KeyReader_source_text : NoAttr K CKeyReader "source_text"
  na_KeyReader_heads : NoAttr K CKeyReader "heads"
  na_KeyReader_letters : NoAttr K CKeyReader "letters"
  na_KeyReader_seen : NoAttr K CKeyReader "seen"
  k_LETTERS : ∃ t, mg "LETTERS" = some (.str "abcdefghijklmnopqrstuvwxyz" t)
  k_MAX_WORD : ∃ t, mg "MAX_WORD" = some (.int 20 t)
  k_MAX_STEPS : ∃ t, mg "MAX_STEPS" = some (.int 30 t)
  k_MAX_TIMES : ∃ t, mg "MAX_TIMES" = some (.int 1000000000 t)
  k_MAX_SIZE_texts : ∃ t, mg "MAX_SIZE_texts" = some (.int 1000000000000000000 t)
  n_isinstance : mg "isinstance" = none
  n_int : mg "int" = none
  n_bool : mg "bool" = none
  n_str : mg "str" = none
  n_len : mg "len" = none
  n_all : mg "all" = none
  n_tuple : mg "tuple" = none
  n_list : mg "list" = none
  n_range : mg "range" = none
  n_enumerate : mg "enumerate" = none
  n_min : mg "min" = none
  n_max : mg "max" = none
  n_divmod : mg "divmod" = none
  n_sum : mg "sum" = none
  n_zip : mg "zip" = none
  n_sorted : mg "sorted" = none
  n_ValueError : mg "ValueError" = none
  n_dict : mg "dict" = none
local macro_rules | `(tactic| walk_at "rd1") => `(tactic| first
  | with_reducible refine rd_seq ?_ | with_reducible refine rd_asg ?_ | with_reducible refine rd_name ?_ | ((with_reducible refine' rd_var ?k1 ?_); (case k1 => rfl)) | with_reducible refine rd_C ?_ | with_reducible refine rd_op ?_ | with_reducible refine rd_cons ?_ | with_reducible refine rd_nil ?_
  | with_reducible refine rd_test ?_ | with_reducible refine rd_tB ?_ | with_reducible refine rd_bl ?_ | with_reducible refine rd_ifS ?_ | with_reducible refine rd_and ?_ | with_reducible refine rd_or ?_ | with_reducible refine rd_not ?_ | with_reducible refine rd_andV ?_ | with_reducible refine rd_orV ?_ | with_reducible refine rd_notV ?_ | with_reducible refine rd_chain ?_
  | with_reducible refine rd_if ?_ | with_reducible refine rd_g ?_ | with_reducible refine rd_m ?_ | with_reducible refine rd_star ?_ | with_reducible refine rd_tup ?_ | with_reducible refine rd_lst ?_ | with_reducible refine rd_fld ?_ | with_reducible refine rd_cb ?_ | with_reducible refine rd_un ?_ | with_reducible refine rd_makeR ?_ | with_reducible refine rd_makeS ?_
  | with_reducible refine rd_bm ?_ | with_reducible refine rd_bm0 ?_ | with_reducible refine rd_next ?_ | with_reducible refine rd_break ?_ | with_reducible refine rd_cont ?_ | with_reducible refine rd_ret ?_ | with_reducible refine rd_retN ?_ | with_reducible refine rd_drop ?_ | with_reducible refine rd_gcons ?_ | with_reducible refine rd_gnil ?_ | with_reducible refine rd_gsub ?_
  | ((with_reducible refine' rd_aug ?k1 ?_); (case k1 => rfl)) | with_reducible refine rd_ipI ?_ | with_reducible refine rd_sfld ?_ | with_reducible refine rd_for ?_ | with_reducible refine rd_iStr ?_ | with_reducible refine rd_iList ?_ | with_reducible refine rd_iTup ?_ | with_reducible refine rd_iRng1 ?_ | with_reducible refine rd_iRng2 ?_ | with_reducible refine rd_iEnumT ?_ | with_reducible refine rd_match ?_ | with_reducible refine rd_par ?_ | with_reducible refine rd_two ?_
  | with_reducible refine rd_sl ?_ | with_reducible refine rd_noPart ?_ | with_reducible refine rd_part ?_ | with_reducible refine rd_pint ?_ | with_reducible refine rd_listRg ?_ | with_reducible refine rd_rg1 ?_ | with_reducible refine rd_rg2 ?_ | with_reducible refine rd_ixO ?_ | with_reducible refine rd_U ?_ | with_reducible refine rd_int_int ?_ | with_reducible refine rd_int_bl ?_ | with_reducible refine rd_min2 ?_ | with_reducible refine rd_max2 ?_ | with_reducible refine rd_in_sign ?_ | with_reducible refine rd_isN ?_ | with_reducible refine rd_notN ?_
  | with_reducible refine rd_lc ?_ | with_reducible refine rd_yes ?_ | with_reducible refine rd_prop ?_ | with_reducible refine rd_cmeth ?_ | with_reducible refine rd_o ?_ | with_reducible refine rd_add_int ?_ | with_reducible refine rd_sub ?_ | with_reducible refine rd_eq_int ?_ | with_reducible refine rd_eq_str ?_ | with_reducible refine rd_eq_bl ?_ | with_reducible refine rd_ne_int ?_ | with_reducible refine rd_ne_str ?_ | with_reducible refine rd_ne_bl ?_ | with_reducible refine rd_I0 ?_
  | with_reducible refine rd_isi_int_int ?_ | with_reducible refine rd_isi_int_bool ?_ | with_reducible refine rd_isi_int_str ?_ | with_reducible refine rd_isi_int_list ?_ | with_reducible refine rd_isi_int_tuple ?_ | with_reducible refine rd_isi_bl_int ?_ | with_reducible refine rd_isi_bl_bool ?_ | with_reducible refine rd_isi_bl_str ?_ | with_reducible refine rd_isi_bl_list ?_ | with_reducible refine rd_isi_bl_tuple ?_ | with_reducible refine rd_isi_str_int ?_ | with_reducible refine rd_isi_str_bool ?_ | with_reducible refine rd_isi_str_str ?_ | with_reducible refine rd_isi_str_list ?_ | with_reducible refine rd_isi_str_tuple ?_ | with_reducible refine rd_isi_non_int ?_ | with_reducible refine rd_isi_non_bool ?_ | with_reducible refine rd_isi_non_str ?_ | with_reducible refine rd_isi_non_list ?_ | with_reducible refine rd_isi_non_tuple ?_)
local macro_rules | `(tactic| walk_at "rd") => `(tactic| repeat walk_at "rd1")
local macro_rules | `(tactic| walk_at "same") => `(tactic| first | assumption | exact Same.refl _ | (refine Same.new ?_ (by assumption); walk_at "same") | (refine Same.mut ?_ (by assumption); walk_at "same") | (refine Same.trans ?_ (by assumption); walk_at "same"))
section
variable {P : Program} {w : World} {K : PySem.W.Frag} {mg : Str → Option Value} {base : Heap} {CText CPart CCounter CEditor CKeyReader CTextError CInvalidStep CTooLong CInvalidPlace CInvalidLetter CARGUMENTS c_law p_law : Addr}
theorem ok_is_integer (T : Txt K mg CText CPart CCounter CEditor CKeyReader CTextError CInvalidStep CTooLong CInvalidPlace CInvalidLetter CARGUMENTS c_law p_law w) : GOk P w K mg base CX0 1 "is_integer" sp_is_integer := by
  refine T.d_is_integer.ok sc_is_integer (fun vs H Q E h => ?len) (fun f cdv A outer s H vs Q E hr h => ?_)
  case len => obtain ⟨v, lo, hi, rfl, _⟩ := h; rfl
  · obtain ⟨v, lo, hi, rfl, hv, k⟩ := h
    refine ⟨_, (pss_one (ps_ret (pe_and (pe_callB (isiK (K := K) rfl) rfl T.n_isinstance (by decide +kernel) (pa_cons (pv 0) (pa_cons (pe_bltn (v := .ty "int") rfl T.n_int (by decide +kernel) rfl) pa_nil))) (pe_and (pe_not (pe_callB (isiK (K := K) rfl) rfl T.n_isinstance (by decide +kernel) (pa_cons (pv 0) (pa_cons (pe_bltn (v := .ty "bool") rfl T.n_bool (by decide +kernel) rfl) pa_nil)))) (pe_one (pe_chain op_le op_le (pv 1) (pv 0) (pv 2))))))), ?_⟩
    cases v with
    | int i =>
      walk_at "rd"
      refine rd_cT rfl ?_
      walk_at "rd"
      refine rd_cT rfl ?_
      walk_at "rd"
      refine rd_ite (fun h1 => ?_) (fun h1 => ?_)
      · walk_at "rd"
        have e : isInt lo hi (.int i) = decide (i ≤ hi) := by unfold isInt; simp [h1]
        rw [← e]; exact k
      · have e : isInt lo hi (.int i) = false := by unfold isInt; simp [h1]
        rw [e] at k; exact k
    | bl c =>
      walk_at "rd"
      refine rd_cT rfl ?_
      walk_at "rd"
      refine rd_cF rfl ?_
      exact k
    | str x => walk_at "rd"; exact rd_cF rfl k
    | non => walk_at "rd"; exact rd_cF rfl k
    | _ => exact hv.elim
end
section
variable {P : Program} {w : World} {K : PySem.W.Frag} {mg : Str → Option Value} {base : Heap} {CText CPart CCounter CEditor CKeyReader CTextError CInvalidStep CTooLong CInvalidPlace CInvalidLetter CARGUMENTS c_law p_law : Addr}
theorem ok_is_letter (T : Txt K mg CText CPart CCounter CEditor CKeyReader CTextError CInvalidStep CTooLong CInvalidPlace CInvalidLetter CARGUMENTS c_law p_law w) : GOk P w K mg base CX0 1 "is_letter" sp_is_letter := by
  refine T.d_is_letter.ok sc_is_letter (fun vs H Q E h => ?len) (fun f cdv A outer s H vs Q E hr h => ?_)
  case len => obtain ⟨v, rfl, _⟩ := h; rfl
  · obtain ⟨v, rfl, hv, hz, k⟩ := h
    obtain ⟨t_LETTERS, h_LETTERS⟩ := T.k_LETTERS; refine ⟨_, (pss_one (ps_ret (pe_and (pe_callB (isiK (K := K) rfl) rfl T.n_isinstance (by decide +kernel) (pa_cons (pv 0) (pa_cons (pe_bltn (v := .ty "str") rfl T.n_str (by decide +kernel) rfl) pa_nil))) (pe_and (pe_cmpR (eqK (K := K) rfl hr.units) (pe_callB (lenK (K := K) rfl) rfl T.n_len (by decide +kernel) (pa_cons (pv 0) pa_nil)) pe_int (nomark _)) (pe_one (pe_cmpR (oInSign) (pv 0) (pe_glob (v := .str "abcdefghijklmnopqrstuvwxyz") rfl h_LETTERS ⟨_, rfl⟩) rfl)))))), ?_⟩
    cases v with
    | str x =>
      walk_at "rd"
      refine rd_cT rfl ?_
      walk_at "rd"
      refine rd_len_str (hz x rfl) ?_
      walk_at "rd"
      refine rd_ite (fun h1 => ?_) (fun h1 => ?_)
      · walk_at "rd"
        obtain ⟨c, hc⟩ := one_sign (Int.ofNat.inj h1)
        subst hc
        walk_at "rd"
        rw [← isLet_one]
        exact k
      · have e : isLet (.str x) = false := isLet_len fun z => h1 (congrArg Int.ofNat z)
        rw [e] at k; exact k
    | bl c => walk_at "rd"; exact rd_cF rfl k
    | int x => walk_at "rd"; exact rd_cF rfl k
    | non => walk_at "rd"; exact rd_cF rfl k
    | _ => exact hv.elim
end
section
variable {P : Program} {w : World} {K : PySem.W.Frag} {mg : Str → Option Value} {base : Heap} {CText CPart CCounter CEditor CKeyReader CTextError CInvalidStep CTooLong CInvalidPlace CInvalidLetter CARGUMENTS c_law p_law : Addr}
theorem ok_is_word (T : Txt K mg CText CPart CCounter CEditor CKeyReader CTextError CInvalidStep CTooLong CInvalidPlace CInvalidLetter CARGUMENTS c_law p_law w) : GOk P w K mg base CX0 2 "is_word" sp_is_word := by
  refine T.d_is_word.ok sc_is_word (fun vs H Q E h => ?len) (fun f cdv A outer s H vs Q E hr h => ?_)
  case len => obtain ⟨v, rfl, _⟩ := h; rfl
  · obtain ⟨v, rfl, hv, hz, k⟩ := h
    obtain ⟨t_MAX_WORD, h_MAX_WORD⟩ := T.k_MAX_WORD; refine ⟨_, (pss_one (ps_ret (pe_and (pe_callB (isiK (K := K) rfl) rfl T.n_isinstance (by decide +kernel) (pa_cons (pv 0) (pa_cons (pe_bltn (v := .ty "str") rfl T.n_str (by decide +kernel) rfl) pa_nil))) (pe_and (pe_chain op_le op_le pe_int (pe_callB (lenK (K := K) rfl) rfl T.n_len (by decide +kernel) (pa_cons (pv 0) pa_nil)) (pe_glob (v := .int 20) rfl h_MAX_WORD ⟨_, rfl⟩)) (pe_one (pe_callB (allK (K := K) rfl rfl) rfl T.n_all (by decide +kernel) (pa_cons (pe_lc (own := [("letter", 1)]) rfl sc_is_word.nd (pi_str (pv 0)) (blkOk_by (own := [("letter", 1)]) (N := N_is_word) (sc := (defScope s_is_word)) (by first | decide +kernel | rfl)) (fun _ _ _ _ _ => (pg_name (i := 1) sc_is_word.nd rfl (Or.inl rfl))) (fun _ _ _ _ _ => pts_nil) (fun _ _ _ _ _ => (pe_g (ok_is_letter (K := K) T) (hr.mono (by decide)) pass0 (pa_cons (pv 1) pa_nil)))) pa_nil))))))), ?_⟩
    cases v with
    | str x =>
      walk_at "rd"
      refine rd_cT rfl ?_
      walk_at "rd"
      refine rd_len_str (hz x rfl) ?_
      walk_at "rd"
      refine rd_ite (fun h1 => ?_) (fun h1 => ?_)
      · walk_at "rd"
        refine rd_ite (fun h2 => ?_) (fun h2 => ?_)
        · walk_at "rd"
          refine ⟨x, rfl, fun D hD => lc_fun (f := fun i => .bl (isLet (.str ⟨#[(tl x)[i]?.getD 0]⟩))) plain_str hD (by rw [← len_tl]; exact hz x rfl) (fun _ => rfl) (fun i H1 Q1 hi S q => ?_) fun H1 S eD => ?_⟩
          · walk_at "rd"
            exact ⟨_, rfl, trivial, fun y ey => by cases ey; exact sign_small _, q _ (Same.refl _)⟩
          · walk_at "rd"
            have eb : ((List.range (tl x).length).map fun i => V.bl (isLet (.str ⟨#[(tl x)[i]?.getD 0]⟩))) = ((List.range (tl x).length).map fun i => isLet (.str ⟨#[(tl x)[i]?.getD 0]⟩)).map V.bl := by rw [List.map_map]; rfl
            rw [eb] at eD
            refine rd_all (SqL.of eD) ?_
            rw [isWd_all (by rw [← len_tl]; omega) (by rw [← len_tl]; omega)]
            exact k _ S
        · have e : isWd (.str x) = false := isWd_len (by rw [← len_tl]; omega)
          rw [e] at k; exact k _ (Same.refl _)
      · have e : isWd (.str x) = false := isWd_len (by rw [← len_tl]; omega)
        walk_at "rd"
        refine rd_cF rfl ?_
        rw [e] at k; exact k _ (Same.refl _)
    | bl c => walk_at "rd"; exact rd_cF rfl (k _ (Same.refl _))
    | int x => walk_at "rd"; exact rd_cF rfl (k _ (Same.refl _))
    | non => walk_at "rd"; exact rd_cF rfl (k _ (Same.refl _))
    | _ => exact hv.elim
end
section
variable {P : Program} {w : World} {K : PySem.W.Frag} {mg : Str → Option Value} {base : Heap} {CText CPart CCounter CEditor CKeyReader CTextError CInvalidStep CTooLong CInvalidPlace CInvalidLetter CARGUMENTS c_law p_law : Addr}
theorem ok_is_step (T : Txt K mg CText CPart CCounter CEditor CKeyReader CTextError CInvalidStep CTooLong CInvalidPlace CInvalidLetter CARGUMENTS c_law p_law w) : GOk P w K mg base CX0 3 "is_step" (sp_is_step K) := by
  refine T.d_is_step.ok sc_is_step (fun vs H Q E h => ?len) (fun f cdv A outer s H vs Q E hr h => ?_)
  case len => obtain ⟨v, n, s, rfl, _⟩ := h; rfl
  · obtain ⟨v, n, s, rfl, ⟨a, rfl, hq⟩, ok, k⟩ := h
    obtain ⟨t_MAX_TIMES, h_MAX_TIMES⟩ := T.k_MAX_TIMES; refine ⟨_, (pss_one (ps_match (pv 0) (pcs_seq (qs := [.inl "write", .inr 2]) rfl sc_is_step.nd (PatEach.val (PatEach.cap ⟨rfl, (Or.inl rfl), Or.inl rfl⟩ PatEach.nil)) rfl (pt_val (pe_callB (isiK (K := K) rfl) rfl T.n_isinstance (by decide +kernel) (pa_cons (pv 0) (pa_cons (pe_bltn (v := .ty "tuple") rfl T.n_tuple (by decide +kernel) rfl) pa_nil)))) (pss_one (ps_ret (pe_g (ok_is_word (K := K) T) (hr.mono (by decide)) pass0 (pa_cons (pv 2) pa_nil))))
    (pcs_seq (qs := [.inl "paste", .inr 3, .inr 4, .inr 5]) rfl sc_is_step.nd (PatEach.val (PatEach.cap ⟨rfl, (Or.inl rfl), Or.inl rfl⟩ (PatEach.cap ⟨rfl, (Or.inl rfl), Or.inl rfl⟩ (PatEach.cap ⟨rfl, (Or.inl rfl), Or.inl rfl⟩ PatEach.nil)))) rfl (pt_val (pe_callB (isiK (K := K) rfl) rfl T.n_isinstance (by decide +kernel) (pa_cons (pv 0) (pa_cons (pe_bltn (v := .ty "tuple") rfl T.n_tuple (by decide +kernel) rfl) pa_nil)))) (pss_cons (ps_if (PW.pt (pw_or (pt_not (pt_val (pe_g (ok_is_integer (K := K) T) (hr.mono (by decide)) pass0 (pa_cons (pv 4) (pa_cons pe_int (pa_cons (pe_op op_sub (pv 1) pe_int) pa_nil)))))) (pw_or1 (pt_not (pt_val (pe_g (ok_is_integer (K := K) T) (hr.mono (by decide)) pass0 (pa_cons (pv 3) (pa_cons pe_int (pa_cons (pv 4) pa_nil))))))))) (pss_one (ps_ret pe_bl))
    pss_nil)
    (pss_one (ps_ret (pe_g (ok_is_integer (K := K) T) (hr.mono (by decide)) pass0 (pa_cons (pv 5) (pa_cons pe_int (pa_cons (pe_glob (v := .int 1000000000) rfl h_MAX_TIMES ⟨_, rfl⟩) pa_nil)))))))
    (pcs_wild (pss_one (ps_ret pe_bl))))))), ?_⟩
    walk_at "rd"
    cases s with
    | wr w =>
      have e : mBind [.inl "write", .inr 2] (stV (.wr w)) = some [(2, .str w)] := by simp [mBind, stV]
      refine .inr ⟨a, _, rfl, .inl hq, .inr ⟨rfl, ⟨rfl, fun _ => trivial⟩, ?_⟩⟩
      rw [e]
      walk_at "rd"
      refine rd_isi_tup_tuple hq ?_
      walk_at "rd"
      refine rd_cT rfl ?_
      walk_at "rd"
      refine ⟨_, rfl, trivial, fun z ez => by cases ez; exact str_small ok.2.1, fun H' S => ?_⟩
      rw [show isWd (.str w) = true from decide_eq_true (by rw [← len_tl]; exact ok)]
      exact k _ S
    | pa i j t =>
      have e : mBind [.inl "paste", .inr 3, .inr 4, .inr 5] (stV (.pa i j t)) = some [(3, .int i), (4, .int j), (5, .int t)] := by simp [mBind, stV]
      obtain ⟨o1, o2, o3, o4⟩ := ok
      refine .inr ⟨a, _, rfl, .inl hq, .inl ⟨by show 4 ≠ 2; decide, ?_⟩⟩
      refine .inr ⟨a, _, rfl, .inl hq, .inr ⟨rfl, ⟨rfl, fun _ => trivial⟩, ?_⟩⟩
      rw [e]
      walk_at "rd"
      refine rd_isi_tup_tuple hq ?_
      walk_at "rd"
      refine rd_cT rfl ?_
      walk_at "rd"
      refine ⟨_, _, _, rfl, trivial, ?_⟩
      rw [show isInt 0 ((n : Int) - 1) (.int j) = true from decide_eq_true (by omega)]
      walk_at "rd"
      refine rd_cF rfl ?_
      walk_at "rd"
      refine ⟨_, _, _, rfl, trivial, ?_⟩
      rw [show isInt 0 (j : Int) (.int i) = true from decide_eq_true (by omega)]
      walk_at "rd"
      refine rd_cF rfl ?_
      walk_at "rd"
      refine ⟨_, _, _, rfl, trivial, ?_⟩
      rw [show isInt 1 1000000000 (.int t) = true from decide_eq_true (by omega)]
      exact k _ (Same.refl _)
end
section
variable {P : Program} {w : World} {K : PySem.W.Frag} {mg : Str → Option Value} {base : Heap} {CText CPart CCounter CEditor CKeyReader CTextError CInvalidStep CTooLong CInvalidPlace CInvalidLetter CARGUMENTS c_law p_law : Addr}
theorem ok_Part_init (T : Txt K mg CText CPart CCounter CEditor CKeyReader CTextError CInvalidStep CTooLong CInvalidPlace CInvalidLetter CARGUMENTS c_law p_law w) : KOk P w K mg base CX0 1 CPart (sp_Part_init CPart) := by
  refine T.d_Part_init.ok sc_Part_init (fun vs H Q E h => ?len) (fun f cdv A outer s H vs Q E hr h => ?_)
  case len => obtain ⟨x, dx, s, n, t, f, l, rfl, _⟩ := h; rfl
  · obtain ⟨x, dx, s0, n, t, f0, l, rfl, hx, k⟩ := h
    refine ⟨_, (pss_cons (ps_fld (pv 0) (pv 1) rfl)
    (pss_cons (ps_fld (pv 0) (pv 2) rfl)
    (pss_cons (ps_fld (pv 0) (pv 3) rfl)
    (pss_cons (ps_fld (pv 0) (pv 4) rfl)
    (pss_one (ps_fld (pv 0) (pv 5) rfl)))))), ?_⟩
    walk_at "rd"
    refine rd_sfld_at hx T.cPart T.na_Part_start (by decide) ?_
    walk_at "rd"
    refine rd_sfld_at upd_same T.cPart T.na_Part_length fl1 ?_
    walk_at "rd"
    refine rd_sfld_at upd_same T.cPart T.na_Part_is_typed fl2 ?_
    walk_at "rd"
    refine rd_sfld_at upd_same T.cPart T.na_Part_first fl3 ?_
    walk_at "rd"
    refine rd_sfld_at upd_same T.cPart T.na_Part_last fl4 ?_
    rw [upd_upd, upd_upd, upd_upd, upd_upd]
    exact k
end
section
variable {P : Program} {w : World} {K : PySem.W.Frag} {mg : Str → Option Value} {base : Heap} {CText CPart CCounter CEditor CKeyReader CTextError CInvalidStep CTooLong CInvalidPlace CInvalidLetter CARGUMENTS c_law p_law : Addr}
theorem ok_Part_source (T : Txt K mg CText CPart CCounter CEditor CKeyReader CTextError CInvalidStep CTooLong CInvalidPlace CInvalidLetter CARGUMENTS c_law p_law w) : MOk P w K mg base CX0 1 CPart "source" (sp_Part_source CPart) := by
  refine T.d_Part_source.ok sc_Part_source (fun vs H Q E h => ?len) (fun f cdv A outer s H vs Q E hr h => ?_)
  case len => obtain ⟨p, dx, s, n, t, f, l, z, rfl, _⟩ := h; rfl
  · obtain ⟨p, dx, s0, n, t, f0, l, z, rfl, hp, hfl, k⟩ := h
    refine ⟨_, (pss_cons (ps_if (pt_val (pe_fldK (K := K) rfl (pv 0) (by rfl))) (pss_one (ps_ret (pe_op op_sub (pe_op (addK (K := K) rfl) (pe_fldK (K := K) rfl (pv 0) (by rfl)) (pv 1)) (pe_fldK (K := K) rfl (pv 0) (by rfl)))))
    pss_nil)
    (pss_one (ps_ret (pe_op (addK (K := K) rfl) (pe_fldK (K := K) rfl (pv 0) (by rfl)) (pe_op op_mod (pe_callTy cInt rfl T.n_int (by decide +kernel) (pa_cons (pe_op op_sub (pv 1) (pe_fldK (K := K) rfl (pv 0) (by rfl))) pa_nil)) (pe_op (addK (K := K) rfl) (pe_op op_sub (pe_fldK (K := K) rfl (pv 0) (by rfl)) (pe_fldK (K := K) rfl (pv 0) (by rfl))) pe_int)))))), ?_⟩
    walk_at "rd"
    refine rd_fld_at hp T.cPart T.na_Part_is_typed partF_typed ?_
    walk_at "rd"
    refine rd_iteC (fun ht => ?_) (fun ht => ?_)
    · walk_at "rd"
      refine rd_fld_at hp T.cPart T.na_Part_first partF_first ?_
      walk_at "rd"
      refine rd_fld_at hp T.cPart T.na_Part_start partF_start ?_
      walk_at "rd"
      rw [if_pos ht] at k
      exact k
    · walk_at "rd"
      refine rd_fld_at hp T.cPart T.na_Part_first partF_first ?_
      walk_at "rd"
      refine rd_fld_at hp T.cPart T.na_Part_start partF_start ?_
      walk_at "rd"
      refine rd_fld_at hp T.cPart T.na_Part_last partF_last ?_
      walk_at "rd"
      refine rd_fld_at hp T.cPart T.na_Part_first partF_first ?_
      walk_at "rd"
      refine rd_I (by have := hfl ht; omega) ?_
      walk_at "rd"
      rw [if_neg (by simp [ht])] at k
      exact k
end
section
variable {P : Program} {w : World} {K : PySem.W.Frag} {mg : Str → Option Value} {base : Heap} {CText CPart CCounter CEditor CKeyReader CTextError CInvalidStep CTooLong CInvalidPlace CInvalidLetter CARGUMENTS c_law p_law : Addr}
theorem ok_Text_init (T : Txt K mg CText CPart CCounter CEditor CKeyReader CTextError CInvalidStep CTooLong CInvalidPlace CInvalidLetter CARGUMENTS c_law p_law w) : KOk P w K mg base CX0 4 CText (spStar 1 (sp_Text_init K CText CPart)) := by
  refine T.d_Text_init.ok sc_Text_init (fun f cdv A outer s H vs Q E hr h => ?_)
  · obtain ⟨x, dx, m, rs, ss, rfl, hx, hm, hst, ok, few, k⟩ := h
    obtain ⟨t_MAX_SIZE_texts, h_MAX_SIZE_texts⟩ := T.k_MAX_SIZE_texts; obtain ⟨t_MAX_STEPS, h_MAX_STEPS⟩ := T.k_MAX_STEPS; refine ⟨_, (pss_cons (ps_set (i := 2) sc_Text_init.nd rfl (Or.inl rfl) (pe_lst pa_nil))
    (pss_cons (ps_asg (pe_tup (pa_cons pe_str (pa_cons pe_int pa_nil))) (pg_tupK (K := K) (n := 2) rfl rfl (pgs_cons (pg_name (i := 3) sc_Text_init.nd rfl (Or.inl rfl)) (pgs_cons (pg_name (i := 4) sc_Text_init.nd rfl (Or.inl rfl)) pgs_nil))))
    (pss_cons (ps_for PassesOwn.never rfl (pi_enumT T.n_enumerate (pa_cons (pv 1) pa_nil)) (pg_tupK (K := K) (n := 2) rfl rfl (pgs_cons (pg_name (i := 5) sc_Text_init.nd rfl (Or.inl rfl)) (pgs_cons (pg_name (i := 6) sc_Text_init.nd rfl (Or.inl rfl)) pgs_nil))) (pss_cons (ps_if (PW.pt (pw_or (pt_cmpR (eqK (K := K) rfl hr.units) (pv 5) (pe_glob (v := .int 30) rfl h_MAX_STEPS ⟨_, rfl⟩) (nomark _)) (pw_or1 (pt_not (pt_val (pe_g (ok_is_step (K := K) T) (hr.mono (by decide)) pass0 (pa_cons (pv 6) (pa_cons (pv 4) pa_nil)))))))) (pss_one ps_never)
    pss_nil)
    (pss_cons (ps_if (pt_cmpR (eqK (K := K) rfl hr.units) (pe_ix (ixK (K := K) rfl) (pv 6) pe_int (fun _ _ => rfl)) pe_str (nomark _)) (pss_cons (ps_expr (pe_bmK (K := K) rfl PySem.F.plainAttrs_list PySem.F.slot_list_append PySem.F.type_list_append mt_append (pv 2) (pa_cons (pe_k (ok_Part_init (K := K) T) (hr.mono (by decide)) T.g_Part pass0 (pa_cons (pv 4) (pa_cons (pe_callB (lenK (K := K) rfl) rfl T.n_len (by decide +kernel) (pa_cons (pe_ix (ixK (K := K) rfl) (pv 6) pe_int (fun _ _ => rfl)) pa_nil)) (pa_cons pe_bl (pa_cons (pe_callB (lenK (K := K) rfl) rfl T.n_len (by decide +kernel) (pa_cons (pv 3) pa_nil)) (pa_cons pe_int pa_nil)))))) pa_nil)))
    (pss_one (ps_set (i := 3) sc_Text_init.nd rfl (Or.inl rfl) (pe_op (addK (K := K) rfl) (pv 3) (pe_ix (ixK (K := K) rfl) (pv 6) pe_int (fun _ _ => rfl))))))
    (pss_one (ps_expr (pe_bmK (K := K) rfl PySem.F.plainAttrs_list PySem.F.slot_list_append PySem.F.type_list_append mt_append (pv 2) (pa_cons (pe_k (ok_Part_init (K := K) T) (hr.mono (by decide)) T.g_Part pass0 (pa_cons (pv 4) (pa_cons (pe_op oMul (pe_op (addK (K := K) rfl) (pe_op op_sub (pe_ix (ixK (K := K) rfl) (pv 6) pe_int (fun _ _ => rfl)) (pe_ix (ixK (K := K) rfl) (pv 6) pe_int (fun _ _ => rfl))) pe_int) (pe_ix (ixK (K := K) rfl) (pv 6) pe_int (fun _ _ => rfl))) (pa_cons pe_bl (pa_cons (pe_ix (ixK (K := K) rfl) (pv 6) pe_int (fun _ _ => rfl)) (pa_cons (pe_ix (ixK (K := K) rfl) (pv 6) pe_int (fun _ _ => rfl)) pa_nil)))))) pa_nil)))))
    (pss_cons (ps_set (i := 4) sc_Text_init.nd rfl (Or.inl rfl) (pe_op (addK (K := K) rfl) (pe_fldK (K := K) rfl (pe_ix (ixK (K := K) rfl) (pv 2) (pe_un un_neg pe_int) (fun _ _ => rfl)) (by rfl)) (pe_fldK (K := K) rfl (pe_ix (ixK (K := K) rfl) (pv 2) (pe_un un_neg pe_int) (fun _ _ => rfl)) (by rfl))))
    (pss_one (ps_if (pt_cmpR op_gt (pv 4) (pe_glob (v := .int 1000000000000000000) rfl h_MAX_SIZE_texts ⟨_, rfl⟩) (nomark _)) (pss_one ps_never)
    pss_nil))))))
    (pss_cons (ps_fld (pv 0) (pv 1) rfl)
    (pss_cons (ps_fld (pv 0) (pv 3) rfl)
    (pss_cons (ps_fld (pv 0) (pv 2) rfl)
    (pss_one (ps_fld (pv 0) (pv 4) rfl)))))))), ?_⟩
    walk_at "rd"
    refine ⟨Nat.zero_le _, fun pl hpl => ?_⟩
    walk_at "rd"
    refine ⟨two_line, fun tp htp => ?_⟩
    refine rd_gtup (SqT.of upd_same) rfl ?_
    walk_at "rd"
    have S1 : Same H (upd (upd H pl (.lst [])) tp (.tup [.str "", .int 0])) := Same.new (Same.new (Same.refl _) hpl) htp
    refine ⟨m, rs, rfl, Same.tup S1 hm, for_enumT (xs := rs) (fun i σ H' => ∃ ps v5 v6, σ = [some (.ref x), some (.ref m), some (.ref pl), some (.str (mkS (tyL (ss.take i)))), some (.int (sz (ss.take i) : Nat)), v5, v6] ∧ Same H H' ∧ H' pl = some (.lst ps) ∧ PartsAt CPart H' ps (ss.take i))
      ⟨[], _, _, by rw [emp_mk]; rfl, S1, lk_new htp upd_same, rfl, fun j s hj => by simp at hj⟩ (fun i σ H' _ ⟨_, _, _, _, S, _⟩ => Same.tup S hm) ?_ ?_⟩
    · rintro i v tu σ H' hv ⟨ps, v5, v6, rfl, S, hpl', hp⟩ hT
      obtain ⟨s', hs, a, rfl, hq⟩ := hst.at hv
      have hi : i < ss.length := (List.getElem?_eq_some_iff.mp hs).1
      have hok := ok_at ok hs
      have hpsl : ps.length < sizeLine := by rw [hp.1, List.length_take]; have := line30; omega
      walk_at "rd"
      refine rd_gtup (SqT.of upd_same) rfl ?_
      walk_at "rd"
      refine rd_dF (by omega) ?_
      walk_at "rd"
      refine ⟨_, _, s', rfl, ⟨a, rfl, Same.tup (Same.new S hT) hq⟩, hok.1, fun Hb S2 => ?_⟩
      have Sb : Same H Hb := (Same.new S hT).trans S2
      have hplb : Hb pl = some (.lst ps) := S2 _ _ (lk_new hT hpl')
      have hpb : PartsAt CPart Hb ps (ss.take i) := hp.mono ((Same.new (Same.refl _) hT).trans S2)
      have hqb : SqT K Hb a (stV s') := Same.tup Sb hq
      walk_at "rd"
      refine rd_cF rfl ?_
      walk_at "rd"
      cases s' with
      | wr w =>
        refine rd_ixT ?_ hqb rfl
        walk_at "rd"
        refine rd_dT rfl ?_
        walk_at "rd"
        refine rd_tyL (SqL.of hplb) _ ?_
        walk_at "rd"
        refine rd_ixT ?_ hqb rfl
        walk_at "rd"
        refine rd_len_str (str_small hok.1.2.1) ?_
        walk_at "rd"
        refine rd_len_str (by rw [mkS_len]; exact Nat.le_trans (tyL_take_le i) (tyL_line ok few)) ?_
        walk_at "rd"
        refine rd_mkPart (fun p dxp Hc np SC hpc => ?_)
        walk_at "rd"
        have hplc := SC _ _ hplb
        have nplp : pl ≠ p := ne_of_none hplb np
        refine rd_append hplc hpsl ?_
        have S3 := Same.mut (o := HO.lst (ps ++ [V.ref p])) (Sb.trans SC) hpl
        have E2 := @upd_same Hc pl (HO.lst (ps ++ [V.ref p]))
        have E4 := lk_ne (o := HO.lst (ps ++ [V.ref p])) nplp.symm hpc
        have E3 := hpb.snoc hs (But.at (o := HO.lst (ps ++ [V.ref p])) (But.same SC)) (fun dx fs e => by rw [hplb] at e; cases e) (v := .ref p) ⟨p, dxp, rfl, by rw [mkS_len] at E4; exact E4⟩
        revert S3 E2 E3 E4
        generalize upd Hc pl (HO.lst (ps ++ [V.ref p])) = Hd
        intro S3 E2 E4 E3
        walk_at "rd"
        refine rd_ixT ?_ (Same.tup S3 hq) rfl
        refine rd_add_str (by rw [mkS_len, len_tl, ← List.length_append]; have := tyL_line (ok_take ok (i + 1)) (by rw [List.length_take]; omega); rw [tyL_take hs] at this; exact this) ?_
        walk_at "rd"
        refine rd_ixI ?_ (SqL.of E2) (atI_last _ _)
        refine rd_fld_at E4 T.cPart T.na_Part_start partF_start ?_
        walk_at "rd"
        refine rd_ixI ?_ (SqL.of E2) (atI_last _ _)
        refine rd_fld_at E4 T.cPart T.na_Part_length partF_length ?_
        walk_at "rd"
        refine rd_dF (by have := hok.2; simp only [len1] at this; omega) ?_
        walk_at "rd"
        refine ⟨_, some (.int i), some (.ref a), ?_, S3, E2, E3⟩
        rw [show (w : Str) = mkS (tl w) from (mkS_tl w).symm, mkS_app, tyL_take hs, sz_take hs, mkS_tl]
        rfl
      | pa f l t =>
        obtain ⟨⟨o1, o2, o3, o4⟩, o5⟩ := hok
        simp only [len1] at o5
        refine rd_ixT ?_ hqb rfl
        walk_at "rd"
        refine rd_dF (by decide +kernel) ?_
        walk_at "rd"
        refine rd_tyL (SqL.of hplb) _ ?_
        walk_at "rd"
        refine rd_ixT ?_ hqb rfl
        walk_at "rd"
        refine rd_ixT ?_ hqb rfl
        walk_at "rd"
        refine rd_ixT ?_ hqb rfl
        walk_at "rd"
        refine rd_mul_int (Or.inl ⟨by omega, by omega⟩) ?_
        walk_at "rd"
        refine rd_ixT ?_ hqb rfl
        walk_at "rd"
        refine rd_ixT ?_ hqb rfl
        walk_at "rd"
        refine rd_mkPart (fun p dxp Hc np SC hpc => ?_)
        walk_at "rd"
        have hplc := SC _ _ hplb
        have nplp : pl ≠ p := ne_of_none hplb np
        refine rd_append hplc hpsl ?_
        rw [show ((l : Int) - f + 1) * t = (((l - f + 1) * t : Nat) : Int) by rw [Int.natCast_mul]; congr 1; omega] at hpc
        have S3 := Same.mut (o := HO.lst (ps ++ [V.ref p])) (Sb.trans SC) hpl
        have E2 := @upd_same Hc pl (HO.lst (ps ++ [V.ref p]))
        have E4 := lk_ne (o := HO.lst (ps ++ [V.ref p])) nplp.symm hpc
        have E3 := hpb.snoc hs (But.at (o := HO.lst (ps ++ [V.ref p])) (But.same SC)) (fun dx fs e => by rw [hplb] at e; cases e) (v := .ref p) ⟨p, dxp, rfl, E4⟩
        revert S3 E2 E3 E4
        generalize upd Hc pl (HO.lst (ps ++ [V.ref p])) = Hd
        intro S3 E2 E4 E3
        walk_at "rd"
        refine rd_ixI ?_ (SqL.of E2) (atI_last _ _)
        refine rd_fld_at E4 T.cPart T.na_Part_start partF_start ?_
        walk_at "rd"
        refine rd_ixI ?_ (SqL.of E2) (atI_last _ _)
        refine rd_fld_at E4 T.cPart T.na_Part_length partF_length ?_
        walk_at "rd"
        refine rd_dF (by omega) ?_
        walk_at "rd"
        refine ⟨_, some (.int i), some (.ref a), ?_, S3, E2, E3⟩
        rw [tyL_take hs, sz_take hs]
        simp only [ty1, List.append_nil, len1, Int.natCast_add]
        rfl
    · rintro σ H' ⟨ps, v5, v6, rfl, S, hpl', hp⟩
      rw [hst.1, List.take_length] at hp ⊢
      have hx' := S _ _ hx
      have hm' : SqT K H' m rs := Same.tup S hm
      have hst' := hst.mono S
      have npl : pl ≠ x := fun e => by subst e; rw [hx] at hpl; cases hpl
      walk_at "rd"
      refine rd_sfld_at hx' T.cText T.na_Text_made (by decide) ?_
      walk_at "rd"
      refine rd_sfld_at upd_same T.cText T.na_Text_typed fl1 ?_
      walk_at "rd"
      refine rd_sfld_at upd_same T.cText T.na_Text_parts fl2 ?_
      walk_at "rd"
      refine rd_sfld_at upd_same T.cText T.na_Text_total fl3 ?_
      have B : But x H' (upd (upd (upd (upd H' x (HO.ins CText dx (putF "made" (.ref m) []))) x (HO.ins CText dx (putF "typed" (.str (mkS (tyL ss))) (putF "made" (.ref m) [])))) x (HO.ins CText dx (putF "parts" (.ref pl) (putF "typed" (.str (mkS (tyL ss))) (putF "made" (.ref m) []))))) x (HO.ins CText dx (putF "total" (.int (sz ss : Nat)) (putF "parts" (.ref pl) (putF "typed" (.str (mkS (tyL ss))) (putF "made" (.ref m) [])))))) := But.at (But.at (But.at (But.at But.refl)))
      refine k _ ⟨ss, dx, m, pl, rs, ps⟩ (fun b o hb e => B _ _ hb (S _ _ e)) ⟨upd_same, B.tup (free1_ins hx') hm', B.steps (free1_ins hx') hst', B _ _ npl hpl', PartsAt.but B (fun dx fs e => ?_) hp, ok, few⟩ rfl rfl
      rw [hx'] at e
      cases e
      exact T.ne_Text_Part rfl
end
section
variable {P : Program} {w : World} {K : PySem.W.Frag} {mg : Str → Option Value} {base : Heap} {CText CPart CCounter CEditor CKeyReader CTextError CInvalidStep CTooLong CInvalidPlace CInvalidLetter CARGUMENTS c_law p_law : Addr}
theorem ok_Text_steps (T : Txt K mg CText CPart CCounter CEditor CKeyReader CTextError CInvalidStep CTooLong CInvalidPlace CInvalidLetter CARGUMENTS c_law p_law w) : POk P w K mg base CX0 1 CText "steps" (sp_Text_steps K CText CPart) := by
  refine T.d_Text_steps.ok sc_Text_steps (fun vs H Q E h => ?len) (fun f cdv A outer s H vs Q E hr h => ?_)
  case len => obtain ⟨a, t, rfl, _⟩ := h; rfl
  · obtain ⟨a, t, rfl, ht, k⟩ := h
    refine ⟨_, (pss_one (ps_ret (pe_fldK (K := K) rfl (pv 0) (by rfl)))), ?_⟩
    walk_at "rd"
    exact rd_fld_at ht.ins T.cText T.na_Text_made textF_made k
end
section
variable {P : Program} {w : World} {K : PySem.W.Frag} {mg : Str → Option Value} {base : Heap} {CText CPart CCounter CEditor CKeyReader CTextError CInvalidStep CTooLong CInvalidPlace CInvalidLetter CARGUMENTS c_law p_law : Addr}
theorem ok_Text_typed_keys (T : Txt K mg CText CPart CCounter CEditor CKeyReader CTextError CInvalidStep CTooLong CInvalidPlace CInvalidLetter CARGUMENTS c_law p_law w) : POk P w K mg base CX0 1 CText "typed_keys" (sp_Text_typed_keys K CText CPart) := by
  refine T.d_Text_typed_keys.ok sc_Text_typed_keys (fun vs H Q E h => ?len) (fun f cdv A outer s H vs Q E hr h => ?_)
  case len => obtain ⟨a, t, rfl, _⟩ := h; rfl
  · obtain ⟨a, t, rfl, ht, k⟩ := h
    refine ⟨_, (pss_one (ps_ret (pe_fldK (K := K) rfl (pv 0) (by rfl)))), ?_⟩
    walk_at "rd"
    exact rd_fld_at ht.ins T.cText T.na_Text_typed textF_typed k
end
section
variable {P : Program} {w : World} {K : PySem.W.Frag} {mg : Str → Option Value} {base : Heap} {CText CPart CCounter CEditor CKeyReader CTextError CInvalidStep CTooLong CInvalidPlace CInvalidLetter CARGUMENTS c_law p_law : Addr}
theorem ok_Text_size (T : Txt K mg CText CPart CCounter CEditor CKeyReader CTextError CInvalidStep CTooLong CInvalidPlace CInvalidLetter CARGUMENTS c_law p_law w) : POk P w K mg base CX0 1 CText "size" (sp_Text_size K CText CPart) := by
  refine T.d_Text_size.ok sc_Text_size (fun vs H Q E h => ?len) (fun f cdv A outer s H vs Q E hr h => ?_)
  case len => obtain ⟨a, t, rfl, _⟩ := h; rfl
  · obtain ⟨a, t, rfl, ht, k⟩ := h
    refine ⟨_, (pss_one (ps_ret (pe_fldK (K := K) rfl (pv 0) (by rfl)))), ?_⟩
    walk_at "rd"
    exact rd_fld_at ht.ins T.cText T.na_Text_total textF_total k
end
section
variable {P : Program} {w : World} {K : PySem.W.Frag} {mg : Str → Option Value} {base : Heap} {CText CPart CCounter CEditor CKeyReader CTextError CInvalidStep CTooLong CInvalidPlace CInvalidLetter CARGUMENTS c_law p_law : Addr}
theorem ok_Text_check_place (T : Txt K mg CText CPart CCounter CEditor CKeyReader CTextError CInvalidStep CTooLong CInvalidPlace CInvalidLetter CARGUMENTS c_law p_law w) : MOk P w K mg base CX0 2 CText "check_place" (sp_Text_check_place K CText CPart) := by
  refine T.d_Text_check_place.ok sc_Text_check_place (fun vs H Q E h => ?len) (fun f cdv A outer s H vs Q E hr h => ?_)
  case len => obtain ⟨a, t, v, rfl, _⟩ := h; rfl
  · obtain ⟨a, t, v, rfl, ht, hv, hi, k⟩ := h
    refine ⟨_, (pss_one (ps_if (pt_not (pt_val (pe_g (ok_is_integer (K := K) T) (hr.mono (by decide)) pass0 (pa_cons (pv 1) (pa_cons pe_int (pa_cons (pe_op op_sub (pe_fldK (K := K) rfl (pv 0) (by rfl)) pe_int) pa_nil)))))) (pss_one ps_never)
    pss_nil)), ?_⟩
    walk_at "rd"
    refine rd_fld_at ht.ins T.cText T.na_Text_total textF_total ?_
    walk_at "rd"
    refine ⟨v, _, _, rfl, hv, ?_⟩
    rw [hi]
    walk_at "rd"
    refine rd_cF rfl ?_
    walk_at "rd"
    exact k
end
section
variable {P : Program} {w : World} {K : PySem.W.Frag} {mg : Str → Option Value} {base : Heap} {CText CPart CCounter CEditor CKeyReader CTextError CInvalidStep CTooLong CInvalidPlace CInvalidLetter CARGUMENTS c_law p_law : Addr}
theorem ok_Text_check_key (T : Txt K mg CText CPart CCounter CEditor CKeyReader CTextError CInvalidStep CTooLong CInvalidPlace CInvalidLetter CARGUMENTS c_law p_law w) : MOk P w K mg base CX0 2 CText "check_key" (sp_Text_check_key K CText CPart) := by
  refine T.d_Text_check_key.ok sc_Text_check_key (fun vs H Q E h => ?len) (fun f cdv A outer s H vs Q E hr h => ?_)
  case len => obtain ⟨a, t, v, rfl, _⟩ := h; rfl
  · obtain ⟨a, t, v, rfl, ht, hv, hi, k⟩ := h
    refine ⟨_, (pss_one (ps_if (pt_not (pt_val (pe_g (ok_is_integer (K := K) T) (hr.mono (by decide)) pass0 (pa_cons (pv 1) (pa_cons pe_int (pa_cons (pe_op op_sub (pe_callB (lenK (K := K) rfl) rfl T.n_len (by decide +kernel) (pa_cons (pe_fldK (K := K) rfl (pv 0) (by rfl)) pa_nil)) pe_int) pa_nil)))))) (pss_one ps_never)
    pss_nil)), ?_⟩
    walk_at "rd"
    refine rd_fld_at ht.ins T.cText T.na_Text_typed textF_typed ?_
    walk_at "rd"
    refine rd_len_str ht.typed_small ?_
    rw [mkS_len]
    walk_at "rd"
    refine ⟨v, _, _, rfl, hv, ?_⟩
    rw [hi]
    walk_at "rd"
    refine rd_cF rfl ?_
    walk_at "rd"
    exact k
end
section
variable {P : Program} {w : World} {K : PySem.W.Frag} {mg : Str → Option Value} {base : Heap} {CText CPart CCounter CEditor CKeyReader CTextError CInvalidStep CTooLong CInvalidPlace CInvalidLetter CARGUMENTS c_law p_law : Addr}
theorem ok_Text_key_of (T : Txt K mg CText CPart CCounter CEditor CKeyReader CTextError CInvalidStep CTooLong CInvalidPlace CInvalidLetter CARGUMENTS c_law p_law w) : MOk P w K mg base CX0 2 CText "key_of" (sp_Text_key_of K CText CPart) := by
  refine T.d_Text_key_of.ok sc_Text_key_of (fun vs H Q E h => ?len) (fun f cdv A outer s H vs Q E hr h => ?_)
  case len => obtain ⟨a, t, p, k, rfl, _⟩ := h; rfl
  · obtain ⟨a, t, p, k, rfl, ht, hk, q⟩ := h
    have hp : p < sz t.ss := by rw [← ks_len ht.ok]; exact (List.getElem?_eq_some_iff.mp hk).1
    refine ⟨_, (pss_cons (ps_set (i := 2) sc_Text_key_of.nd rfl (Or.inl rfl) (pe_op op_sub (pe_callB (lenK (K := K) rfl) rfl T.n_len (by decide +kernel) (pa_cons (pe_fldK (K := K) rfl (pv 0) (by rfl)) pa_nil)) pe_int))
    (pss_cons (ps_while PassesOwn.never (pt_cmpR op_ge (pv 2) pe_int (nomark _)) (pss_cons (ps_set (i := 3) sc_Text_key_of.nd rfl (Or.inl rfl) (pe_ix (ixK (K := K) rfl) (pe_fldK (K := K) rfl (pv 0) (by rfl)) (pv 2) (fun _ _ => rfl)))
    (pss_cons (ps_if (pt_cmpR op_ge (pv 1) (pe_fldK (K := K) rfl (pv 3) (by rfl)) (nomark _)) (pss_cons (ps_set (i := 1) sc_Text_key_of.nd rfl (Or.inl rfl) (pe_m (pv 3) T.cPart (ok_Part_source (K := K) T) (hr.mono (by decide)) pass0 (pa_cons (pv 1) pa_nil)))
    (pss_one (ps_if (pt_val (pe_fldK (K := K) rfl (pv 3) (by rfl))) (pss_one ps_break)
    pss_nil)))
    pss_nil)
    (pss_one (ps_aug (i := 2) sc_Text_key_of.nd rfl (Or.inl rfl) pe_int ip_sub)))))
    (pss_one (ps_ret (pv 1))))), ?_⟩
    walk_at "rd"
    refine rd_fld_at ht.ins T.cText T.na_Text_parts textF_parts ?_
    walk_at "rd"
    refine rd_len_lst (SqL.of ht.pls) ?_
    walk_at "rd"
    refine rd_while (fun j σ H' => ∃ (p' : Nat), ∃ v3, σ = [some (.ref a), some (.int p'), some (.int ((j : Int) - 1)), v3] ∧ H = H' ∧ j ≤ t.ss.length ∧ p' < sz (t.ss.take j) ∧ (ks t.ss)[p']? = some k) ⟨t.ss.length, p, none, by rw [ht.prt.1]; rfl, rfl, Nat.le_refl _, by rw [List.take_length]; exact hp, hk⟩ ?_
    rintro j σ H' ⟨p', v3, rfl, rfl, hj, hp', hk'⟩
    have j0 : 0 < j := by
      rcases Nat.eq_zero_or_pos j with e | e
      · subst e; simp [sz] at hp'
      · exact e
    obtain ⟨i, rfl⟩ : ∃ i, j = i + 1 := ⟨j - 1, by omega⟩
    have hs : t.ss[i]? = some (t.ss[i]'(by omega)) := List.getElem?_eq_getElem _
    have hsz := sz_take hs
    have ei : (((i + 1 : Nat) : Int) - 1) = (i : Nat) := by omega
    rw [ei]
    obtain ⟨v, hv, hpart⟩ := ht.prt.2 i _ hs
    have wf := (ok_at ht.ok hs).1
    walk_at "rd"
    refine rd_dT (by omega) ⟨fun σ' H' => ∃ m', m' < i + 1 ∧ ∃ (p' : Nat), ∃ v3, σ' = [some (.ref a), some (.int p'), some (.int ((m' : Int) - 1)), v3] ∧ H = H' ∧ m' ≤ t.ss.length ∧ p' < sz (t.ss.take m') ∧ (ks t.ss)[p']? = some k, fun σ' H' z => z, ?_⟩
    walk_at "rd"
    refine rd_fld_at ht.ins T.cText T.na_Text_parts textF_parts ?_
    walk_at "rd"
    refine rd_ixLn (SqL.of ht.pls) hv ?_
    walk_at "rd"
    cases e : t.ss[i]'(by omega) with
    | wr w =>
      rw [e] at hpart hs hsz wf
      obtain ⟨pp, dp, rfl, hP⟩ := hpart
      refine rd_fld_at hP T.cPart T.na_Part_start partF_start ?_
      walk_at "rd"
      refine rd_ite (fun h1 => ?_) (fun h1 => ?_)
      · walk_at "rd"
        refine rd_m_at ⟨_, _, hP, partF_no (by decide +kernel)⟩ ?_
        walk_at "rd"
        refine ⟨pp, dp, _, _, _, _, _, _, rfl, hP, fun z => (by cases z), ?_⟩
        rw [if_pos rfl]
        walk_at "rd"
        refine rd_fld_at hP T.cPart T.na_Part_is_typed partF_typed ?_
        walk_at "rd"
        refine rd_cT rfl ?_
        walk_at "rd"
        have := ks_wr ht.ok hs (p := p') (by omega) hp'
        rw [hk'] at this
        rw [show ((tyL (t.ss.take i)).length : Int) + (p' : Int) - (sz (t.ss.take i) : Nat) = (k : Nat) by cases this; omega]
        exact q
      · walk_at "rd"
        exact ⟨i, by omega, p', _, rfl, rfl, by omega, by omega, hk'⟩
    | pa f l u =>
      rw [e] at hpart hs hsz wf
      obtain ⟨pp, dp, rfl, hP⟩ := hpart
      refine rd_fld_at hP T.cPart T.na_Part_start partF_start ?_
      walk_at "rd"
      refine rd_ite (fun h1 => ?_) (fun h1 => ?_)
      · walk_at "rd"
        refine rd_m_at ⟨_, _, hP, partF_no (by decide +kernel)⟩ ?_
        walk_at "rd"
        refine ⟨pp, dp, _, _, _, _, _, _, rfl, hP, fun _ => (by have := wf.1; omega), ?_⟩
        rw [if_neg Bool.false_ne_true]
        walk_at "rd"
        refine rd_fld_at hP T.cPart T.na_Part_is_typed partF_typed ?_
        walk_at "rd"
        refine rd_cF rfl ?_
        walk_at "rd"
        have := ks_pa ht.ok hs (p := p') (by omega) hp'
        have fl := wf.1
        refine ⟨i, by omega, f + (p' - sz (t.ss.take i)) % (l - f + 1), some (.ref pp), ?_, rfl, by omega, this.1, by rw [← this.2]; exact hk'⟩
        rw [show ((f : Nat) : Int) + ((p' : Nat) - (sz (t.ss.take i) : Nat) : Int) % ((l : Nat) - (f : Nat) + 1 : Int) = ((f + (p' - sz (t.ss.take i)) % (l - f + 1) : Nat) : Int) by
          rw [Int.natCast_add, Int.natCast_emod, Int.natCast_sub (by omega), Int.natCast_add, Int.natCast_sub fl]; rfl]
        rfl
      · walk_at "rd"
        exact ⟨i, by omega, p', _, rfl, rfl, by omega, by omega, hk'⟩
end
section
variable {P : Program} {w : World} {K : PySem.W.Frag} {mg : Str → Option Value} {base : Heap} {CText CPart CCounter CEditor CKeyReader CTextError CInvalidStep CTooLong CInvalidPlace CInvalidLetter CARGUMENTS c_law p_law : Addr}
theorem ok_Text_call (T : Txt K mg CText CPart CCounter CEditor CKeyReader CTextError CInvalidStep CTooLong CInvalidPlace CInvalidLetter CARGUMENTS c_law p_law w) : XOk P w K mg base CX0 3 (CallO K CText) (sp_Text_call K CText CPart) := by
  refine T.d_Text_call.ok sc_Text_call (fun vs H Q E h => ?len) (fun f cdv A outer s H vs Q E hr h => ?_)
  case len => obtain ⟨a, t, p, k, rfl, _⟩ := h; rfl
  · obtain ⟨a, t, p, k, rfl, ht, hk, q⟩ := h
    have hp : p < sz t.ss := by rw [← ks_len ht.ok]; exact (List.getElem?_eq_some_iff.mp hk).1
    refine ⟨_, (pss_cons (ps_expr (pe_m (pv 0) T.cText (ok_Text_check_place (K := K) T) (hr.mono (by decide)) pass0 (pa_cons (pv 1) pa_nil)))
    (pss_one (ps_ret (pe_m (pv 0) T.cText (ok_Text_key_of (K := K) T) (hr.mono (by decide)) pass0 (pa_cons (pv 1) pa_nil))))), ?_⟩
    walk_at "rd"
    refine rd_m_at ht.insM ?_
    walk_at "rd"
    refine ⟨a, t, _, rfl, ht, trivial, decide_eq_true (by omega), ?_⟩
    walk_at "rd"
    refine rd_m_at ht.insM ?_
    walk_at "rd"
    exact ⟨a, t, p, k, rfl, ht, hk, q⟩
end
section
variable {P : Program} {w : World} {K : PySem.W.Frag} {mg : Str → Option Value} {base : Heap} {CText CPart CCounter CEditor CKeyReader CTextError CInvalidStep CTooLong CInvalidPlace CInvalidLetter CARGUMENTS c_law p_law : Addr}
theorem ok_Text_getitem (T : Txt K mg CText CPart CCounter CEditor CKeyReader CTextError CInvalidStep CTooLong CInvalidPlace CInvalidLetter CARGUMENTS c_law p_law w) : XOk P w K mg base CX0 3 (IOwn K CText) (sp_Text_getitem K CText CPart) := by
  refine T.d_Text_getitem.ok sc_Text_getitem (fun vs H Q E h => ?len) (fun f cdv A outer s H vs Q E hr h => ?_)
  case len => obtain ⟨a, t, p, k, c, rfl, _⟩ := h; rfl
  · obtain ⟨a, t, p, k, c, rfl, ht, hk, hc, q⟩ := h
    have hp : p < sz t.ss := by rw [← ks_len ht.ok]; exact (List.getElem?_eq_some_iff.mp hk).1
    refine ⟨_, (pss_cons (ps_if (pt_not (pt_val (pe_g (ok_is_integer (K := K) T) (hr.mono (by decide)) pass0 (pa_cons (pv 1) (pa_cons pe_int (pa_cons (pe_op op_sub (pe_fldK (K := K) rfl (pv 0) (by rfl)) pe_int) pa_nil)))))) (pss_one ps_never)
    pss_nil)
    (pss_one (ps_ret (pe_ix (ixK (K := K) rfl) (pe_fldK (K := K) rfl (pv 0) (by rfl)) (pe_m (pv 0) T.cText (ok_Text_key_of (K := K) T) (hr.mono (by decide)) pass0 (pa_cons (pv 1) pa_nil)) (fun _ _ => rfl))))), ?_⟩
    walk_at "rd"
    refine rd_fld_at ht.ins T.cText T.na_Text_total textF_total ?_
    walk_at "rd"
    refine ⟨_, _, _, rfl, trivial, ?_⟩
    rw [show isInt 0 ((sz t.ss : Nat) - 1 : Int) (.int p) = true from decide_eq_true (by omega)]
    walk_at "rd"
    refine rd_cF rfl ?_
    walk_at "rd"
    refine rd_fld_at ht.ins T.cText T.na_Text_typed textF_typed ?_
    walk_at "rd"
    refine rd_m_at ht.insM ?_
    walk_at "rd"
    exact ⟨a, t, p, k, rfl, ht, hk, rd_ixSn ht.typed_small hc q⟩
end
section
variable {P : Program} {w : World} {K : PySem.W.Frag} {mg : Str → Option Value} {base : Heap} {CText CPart CCounter CEditor CKeyReader CTextError CInvalidStep CTooLong CInvalidPlace CInvalidLetter CARGUMENTS c_law p_law : Addr}
theorem ok_Text_retyped (T : Txt K mg CText CPart CCounter CEditor CKeyReader CTextError CInvalidStep CTooLong CInvalidPlace CInvalidLetter CARGUMENTS c_law p_law w) : MOk P w K mg base CX0 6 CText "retyped" (sp_Text_retyped K CText CPart) := by
  refine T.d_Text_retyped.ok sc_Text_retyped (fun vs H Q E h => ?len) (fun f cdv A outer s H vs Q E hr h => ?_)
  case len => obtain ⟨a, t, k, c, rfl, _⟩ := h; rfl
  · obtain ⟨a, t, k, c, rfl, ht, hk, hc1, hc2, q⟩ := h
    refine ⟨_, (pss_cons (ps_expr (pe_m (pv 0) T.cText (ok_Text_check_key (K := K) T) (hr.mono (by decide)) pass0 (pa_cons (pv 1) pa_nil)))
    (pss_cons (ps_if (pt_not (pt_val (pe_g (ok_is_letter (K := K) T) (hr.mono (by decide)) pass0 (pa_cons (pv 2) pa_nil)))) (pss_one ps_never)
    pss_nil)
    (pss_cons (ps_par (i := 3) (j := 4) rfl sc_Text_retyped.nd rfl rfl (by decide) rfl rfl (pa_cons (pe_lst pa_nil) (pa_cons pe_int pa_nil)) rfl)
    (pss_cons (ps_for PassesOwn.never rfl (pi_tupK (K := K) rfl (pe_fldK (K := K) rfl (pv 0) (by rfl))) (pg_name (i := 5) sc_Text_retyped.nd rfl (Or.inl rfl)) (pss_cons (ps_if (pt_cmpR (eqK (K := K) rfl hr.units) (pe_ix (ixK (K := K) rfl) (pv 5) pe_int (fun _ _ => rfl)) pe_str (nomark _)) (pss_cons (ps_set (i := 6) sc_Text_retyped.nd rfl (Or.inl rfl) (pe_op op_sub (pv 1) (pv 4)))
    (pss_cons (ps_set (i := 7) sc_Text_retyped.nd rfl (Or.inl rfl) (pe_ix (ixK (K := K) rfl) (pv 5) pe_int (fun _ _ => rfl)))
    (pss_cons (ps_if (pt_chain op_le op_lt pe_int (pv 6) (pe_callB (lenK (K := K) rfl) rfl T.n_len (by decide +kernel) (pa_cons (pv 7) pa_nil))) (pss_one (ps_set (i := 5) sc_Text_retyped.nd rfl (Or.inl rfl) (pe_tup (pa_cons pe_str (pa_cons (pe_op (addK (K := K) rfl) (pe_op (addK (K := K) rfl) (pe_slice sl_str (pv 7) po_none (po_some (pv 6))) (pv 2)) (pe_slice sl_str (pv 7) (po_some (pe_op (addK (K := K) rfl) (pv 6) pe_int)) po_none)) pa_nil)))))
    pss_nil)
    (pss_one (ps_aug (i := 4) sc_Text_retyped.nd rfl (Or.inl rfl) (pe_callB (lenK (K := K) rfl) rfl T.n_len (by decide +kernel) (pa_cons (pv 7) pa_nil)) ip_add)))))
    pss_nil)
    (pss_one (ps_expr (pe_bmK (K := K) rfl PySem.F.plainAttrs_list PySem.F.slot_list_append PySem.F.type_list_append mt_append (pv 3) (pa_cons (pv 5) pa_nil))))))
    (pss_one (ps_ret (pe_ks (pe_glob (v := .ref CText) rfl T.g_Text rfl) (ok_Text_init (K := K) T) (hr.mono (by decide)) pass0 (pv 3)))))))), ?_⟩
    walk_at "rd"
    refine rd_m_at ht.insM ?_
    walk_at "rd"
    refine ⟨a, t, _, rfl, ht, trivial, decide_eq_true (by omega), ?_⟩
    walk_at "rd"
    refine ⟨_, rfl, trivial, fun x ex => by cases ex; exact sign_small _, ?_⟩
    rw [show isLet (.str ⟨#[c]⟩) = true from decide_eq_true ⟨hc1, hc2⟩]
    walk_at "rd"
    refine rd_cF rfl ?_
    walk_at "rd"
    refine ⟨Nat.zero_le _, fun l hl => ?_⟩
    walk_at "rd"
    refine rd_fld_at (lk_new hl ht.ins) T.cText T.na_Text_made textF_made ?_
    have S1 : Same H (upd H l (.lst [])) := Same.new (Same.refl _) hl
    refine ⟨_, rfl, ⟨_, Same.tup S1 ht.made⟩, for_tup (xs := t.ms) (RtPv K H a l k c t.ss) ⟨[], _, _, _, rfl, S1, hl, upd_same, rfl, fun j s hj => by simp [rt] at hj⟩ (fun i σ H' _ ⟨_, _, _, _, _, S, _⟩ => Same.tup S ht.made) ?_ ?_⟩
    · rintro i v σ H' hv ⟨ys, v5, v6, v7, rfl, S, _, hl', hys⟩
      obtain ⟨s', hs, a', rfl, hq⟩ := ht.stp.at hv
      have hq' := Same.tup S hq
      have ok' := (ok_at ht.ok hs).1
      have few := ht.few
      walk_at "rd"
      cases s' with
      | wr w =>
        have w20 := ok'.2.1
        have wz : w.length ≤ sizeLine := str_small w20
        have lw := len_tl w
        refine rd_ixT ?_ hq' rfl
        walk_at "rd"
        refine rd_dT rfl ?_
        walk_at "rd"
        refine rd_ixT ?_ hq' rfl
        walk_at "rd"
        refine rd_ite (fun h1 => ?_) (fun h1 => ?_)
        · walk_at "rd"
          refine rd_len_str wz ?_
          walk_at "rd"
          refine rd_ite (fun h2 => ?_) (fun h2 => ?_)
          · walk_at "rd"
            refine rd_slS wz ?_
            walk_at "rd"
            refine rd_add_str ?_ ?_
            · have := cutS_length w none (some ((k : Int) - ((tyL (t.ss.take i)).length : Nat)))
              have e1 : (⟨#[c]⟩ : Str).length = 1 := rfl
              have := twenty_line
              omega
            walk_at "rd"
            refine rd_slS wz ?_
            walk_at "rd"
            refine rd_add_str ?_ ?_
            · have h3 := cutS_length w none (some ((k : Int) - ((tyL (t.ss.take i)).length : Nat)))
              have h4 := cutS_length w (some ((k : Int) - ((tyL (t.ss.take i)).length : Nat) + 1)) none
              have e1 : (⟨#[c]⟩ : Str).length = 1 := rfl
              have := twenty_line
              rw [str_len_app]
              omega
            walk_at "rd"
            refine ⟨two_line, fun p hp => ?_⟩
            walk_at "rd"
            refine rd_len_str wz ?_
            walk_at "rd"
            have S2 := Same.new (o := .tup [.str "write", .str (cutS w none (some ((k : Int) - ((tyL (t.ss.take i)).length : Nat))) ++ ⟨#[c]⟩ ++ cutS w (some ((k : Int) - ((tyL (t.ss.take i)).length : Nat) + 1)) none)]) (Same.refl H') hp
            refine rd_tyL (SqL.of (S2 _ _ hl')) _ ?_
            walk_at "rd"
            refine RtPv.next (ss := t.ss) (n := (tyL (t.ss.take i)).length + w.length) hs (S.trans S2) hl (S2 _ _ hl') (hys.mono S2) ?_ few (by simp only [ty1]; omega) fun H2 z => z
            have ek : (k : Int) - ((tyL (t.ss.take i)).length : Nat) = ((k - (tyL (t.ss.take i)).length : Nat) : Int) := by omega
            rw [ek, word_set (by omega)]
            have er : rt1 k c (tyL (t.ss.take i)).length (.wr w) = .wr (mkS ((tl w).set (k - (tyL (t.ss.take i)).length) c)) := by simp only [rt1]; rw [if_pos (by omega)]
            rw [er]
            exact SqT.of upd_same
          · walk_at "rd"
            refine rd_len_str wz ?_
            walk_at "rd"
            refine rd_tyL (SqL.of hl') _ ?_
            walk_at "rd"
            refine RtPv.next (ss := t.ss) (n := (tyL (t.ss.take i)).length + w.length) hs S hl hl' hys ?_ few (by simp only [ty1]; omega) fun H2 z => z
            have er : rt1 k c (tyL (t.ss.take i)).length (.wr w) = .wr w := by simp only [rt1]; rw [if_neg (by omega)]
            rw [er]
            exact hq'
        · walk_at "rd"
          refine rd_cF rfl ?_
          walk_at "rd"
          refine rd_len_str wz ?_
          walk_at "rd"
          refine rd_tyL (SqL.of hl') _ ?_
          walk_at "rd"
          refine RtPv.next (ss := t.ss) (n := (tyL (t.ss.take i)).length + w.length) hs S hl hl' hys ?_ few (by simp only [ty1]; omega) fun H2 z => z
          have er : rt1 k c (tyL (t.ss.take i)).length (.wr w) = .wr w := by simp only [rt1]; rw [if_neg (by omega)]
          rw [er]
          exact hq'
      | pa f l' u =>
        refine rd_ixT ?_ hq' rfl
        walk_at "rd"
        refine rd_dF (by decide +kernel) ?_
        walk_at "rd"
        refine rd_tyL (SqL.of hl') _ ?_
        walk_at "rd"
        exact RtPv.next (ss := t.ss) (n := (tyL (t.ss.take i)).length) hs S hl hl' hys hq' few (by simp only [ty1, List.length_nil]; omega) fun H2 z => z
    · rintro σ H' ⟨ys, v5, v6, v7, rfl, S, _, hl', hys⟩
      rw [ht.stp.1, List.take_length] at hys
      walk_at "rd"
      refine ⟨rfl, ?_⟩
      walk_at "rd"
      exact rd_mkS (.inr (SqL.of hl')) (rd_mkText hys (ok_rt ⟨hc1, hc2⟩ 0 0 _ ht.ok) (by rw [rt_length]; exact ht.few) fun x Hc z nx S2 T e => q Hc x z (S.trans S2) T e)
end
section
variable {P : Program} {w : World} {K : PySem.W.Frag} {mg : Str → Option Value} {base : Heap} {CText CPart CCounter CEditor CKeyReader CTextError CInvalidStep CTooLong CInvalidPlace CInvalidLetter CARGUMENTS c_law p_law : Addr}
theorem ok_InvalidStep_init (T : Txt K mg CText CPart CCounter CEditor CKeyReader CTextError CInvalidStep CTooLong CInvalidPlace CInvalidLetter CARGUMENTS c_law p_law w) : IOk P w K mg base 1 CInvalidStep ["self", "index"] (sp_xi1 CInvalidStep "index") := by
  refine T.d_InvalidStep_init.ok sc_InvalidStep_init (fun vs H Q E h => ?len) (fun f cdv A outer s H vs Q E hr h => ?_)
  case len => obtain ⟨a, i, rfl, _⟩ := h; rfl
  · obtain ⟨a, i, rfl, hi, ha, k⟩ := h
    refine ⟨_, (pss_cons (ps_expr (pe_xinitK (K := K) rfl T.xb_TextError (pa_cons (pv 0) (pa_cons (pe_joined (PJ.cons pe_str (PJ.cons (pe_fmt (pv 1)) PJ.nil))) pa_nil))))
    (pss_one (ps_ostK (K := K) rfl (pv 0) (pv 1)))), ?_⟩
    walk_at "rd"
    refine rd_veI ?_
    walk_at "rd"
    refine rd_jlit (by decide +kernel) (rd_jnum rfl hi (by decide +kernel) fun y hy => rd_jnil ?_)
    walk_at "rd"
    refine rd_veI1 T.x_InvalidStep.oex ha ?_
    refine rd_ost ?_
    walk_at "rd"
    exact rd_ost1 T.x_InvalidStep.oex (T.x_InvalidStep.no _ (.head _)) ha k
end
section
variable {P : Program} {w : World} {K : PySem.W.Frag} {mg : Str → Option Value} {base : Heap} {CText CPart CCounter CEditor CKeyReader CTextError CInvalidStep CTooLong CInvalidPlace CInvalidLetter CARGUMENTS c_law p_law : Addr}
theorem okR_Text_check_place (T : Txt K mg CText CPart CCounter CEditor CKeyReader CTextError CInvalidStep CTooLong CInvalidPlace CInvalidLetter CARGUMENTS c_law p_law w) : MOk P w K mg base (L2.CX P w) 4 CText "check_place" (sp_Text_check_placeR K CInvalidPlace CText CPart) := by
  refine T.d_Text_check_place.okX sc_Text_check_place (fun vs H Q E h => ?len) (fun f cdv A outer s H vs Q E hr h => ?_)
  case len => obtain ⟨a, t, v, rfl, _⟩ := h; rfl
  · obtain ⟨a, t, v, rfl, ht, hv, hi, k⟩ := h
    refine ⟨_, (pss_one (ps_if (pt_not (pt_val (pe_g (ok_is_integer (K := K) T) (hr.mono (by decide)) pass0 (pa_cons (pv 1) (pa_cons pe_int (pa_cons (pe_op op_sub (pe_fldK (K := K) rfl (pv 0) (by rfl)) pe_int) pa_nil)))))) (pss_one (ps_rz T.x_InvalidPlace (takes_of rfl rfl rfl rfl)))
    pss_nil)), ?_⟩
    walk_at "rd"
    refine rd_fld_at ht.ins T.cText T.na_Text_total textF_total ?_
    walk_at "rd"
    refine ⟨v, _, _, rfl, hv, ?_⟩
    rw [hi]
    walk_at "rd"
    refine rd_cT rfl ?_
    walk_at "rd"
    exact k
end
section
variable {P : Program} {w : World} {K : PySem.W.Frag} {mg : Str → Option Value} {base : Heap} {CText CPart CCounter CEditor CKeyReader CTextError CInvalidStep CTooLong CInvalidPlace CInvalidLetter CARGUMENTS c_law p_law : Addr}
theorem scal_ns {v : V} {z : Str} (h : NoSeq v) : scal v (.str z) = true := by cases v <;> first | rfl | exact h.elim
theorem okG_is_step (T : Txt K mg CText CPart CCounter CEditor CKeyReader CTextError CInvalidStep CTooLong CInvalidPlace CInvalidLetter CARGUMENTS c_law p_law w) : GOk P w K mg base CX0 3 "is_step" (sp_is_stepG K) := by
  refine T.d_is_step.ok sc_is_step (fun vs H Q E h => ?len) (fun f cdv A outer s H vs Q E hr h => ?_)
  case len => obtain ⟨v, n, b, rfl, _⟩ := h; rfl
  · obtain ⟨v, n, b, rfl, hv, k⟩ := h
    obtain ⟨t_MAX_TIMES, h_MAX_TIMES⟩ := T.k_MAX_TIMES; refine ⟨_, (pss_one (ps_match (pv 0) (pcs_seq (qs := [.inl "write", .inr 2]) rfl sc_is_step.nd (PatEach.val (PatEach.cap ⟨rfl, (Or.inl rfl), Or.inl rfl⟩ PatEach.nil)) rfl (pt_val (pe_callB (isiK (K := K) rfl) rfl T.n_isinstance (by decide +kernel) (pa_cons (pv 0) (pa_cons (pe_bltn (v := .ty "tuple") rfl T.n_tuple (by decide +kernel) rfl) pa_nil)))) (pss_one (ps_ret (pe_g (ok_is_word (K := K) T) (hr.mono (by decide)) pass0 (pa_cons (pv 2) pa_nil))))
    (pcs_seq (qs := [.inl "paste", .inr 3, .inr 4, .inr 5]) rfl sc_is_step.nd (PatEach.val (PatEach.cap ⟨rfl, (Or.inl rfl), Or.inl rfl⟩ (PatEach.cap ⟨rfl, (Or.inl rfl), Or.inl rfl⟩ (PatEach.cap ⟨rfl, (Or.inl rfl), Or.inl rfl⟩ PatEach.nil)))) rfl (pt_val (pe_callB (isiK (K := K) rfl) rfl T.n_isinstance (by decide +kernel) (pa_cons (pv 0) (pa_cons (pe_bltn (v := .ty "tuple") rfl T.n_tuple (by decide +kernel) rfl) pa_nil)))) (pss_cons (ps_if (PW.pt (pw_or (pt_not (pt_val (pe_g (ok_is_integer (K := K) T) (hr.mono (by decide)) pass0 (pa_cons (pv 4) (pa_cons pe_int (pa_cons (pe_op op_sub (pv 1) pe_int) pa_nil)))))) (pw_or1 (pt_not (pt_val (pe_g (ok_is_integer (K := K) T) (hr.mono (by decide)) pass0 (pa_cons (pv 3) (pa_cons pe_int (pa_cons (pv 4) pa_nil))))))))) (pss_one (ps_ret pe_bl))
    pss_nil)
    (pss_one (ps_ret (pe_g (ok_is_integer (K := K) T) (hr.mono (by decide)) pass0 (pa_cons (pv 5) (pa_cons pe_int (pa_cons (pe_glob (v := .int 1000000000) rfl h_MAX_TIMES ⟨_, rfl⟩) pa_nil)))))))
    (pcs_wild (pss_one (ps_ret pe_bl))))))), ?_⟩
    walk_at "rd"
    rcases hv with ⟨hv, rfl⟩ | ⟨a, xs, rfl, hxs, hv⟩
    · refine .inl ⟨hv, .inl ⟨hv, ?_⟩⟩
      walk_at "rd"
      exact k _ (Same.refl _)
    -- the second clause, whatever the first one has bound
    · have two : ∀ o : Option V, (xs.length ≠ 4 → b = false) → tCaseS K [.inl "paste", .inr 3, .inr 4, .inr 5] (tB (tCB (rIsi K) (tCons (tVar 0) (tCons (tC (V.ty "tuple")) tNil))))
          (tSeq (tIfS (tOr (tNot (tB (tG sp_is_integer E0 (tCons (tVar 4) (tCons (tC (V.int 0)) (tCons (tOp (rI0 fun i j => V.int (i - j)) (tVar 1) (tC (V.int 1))) tNil)))))) (tNot (tB (tG sp_is_integer E0 (tCons (tVar 3) (tCons (tC (V.int 0)) (tCons (tVar 4) tNil)))))))
            (tRet (tC (V.bl false))) tNext) (tRet (tG sp_is_integer E0 (tCons (tVar 5) (tCons (tC (V.int 1)) (tCons (tC (V.int 1000000000)) tNil))))))
          (fun _ => tRet (tC (V.bl false))) (.ref a) { nx := fun _ H' => Q .non H', rt := Q } [some (.ref a), some (.int n), o, none, none, none] H := by
        intro o hb4
        by_cases l4 : xs.length = 4
        · match xs, l4, hxs, hv with
          | [x1, x2, x3, x4], _, hxs, hv =>
            have h1 := hxs x1 (.head _)
            have h2 := hxs x2 (.tail _ (.head _))
            have h3 := hxs x3 (.tail _ (.tail _ (.head _)))
            have h4 := hxs x4 (.tail _ (.tail _ (.tail _ (.head _))))
            refine .inr ⟨a, [x1, x2, x3, x4], rfl, hv.imp (·.1) (·.1), .inr ⟨rfl, ⟨scal_ns h1.1, fun _ => trivial⟩, ?_⟩⟩
            by_cases e1 : x1 = .str "paste"
            · subst e1
              rw [show mBind [.inl "paste", .inr 3, .inr 4, .inr 5] [V.str "paste", x2, x3, x4] = some [(3, x2), (4, x3), (5, x4)] by simp [mBind]]
              rcases hv with ⟨hq, rfl⟩ | ⟨hq, rfl⟩
              · walk_at "rd"
                refine rd_isi_tup_tuple hq ?_
                walk_at "rd"
                refine rd_cT rfl ?_
                walk_at "rd"
                refine ⟨_, _, _, rfl, h3.1, ?_⟩
                walk_at "rd"
                have eS : isSt n [V.str "paste", x2, x3, x4] = (isInt 0 ((n : Int) - 1) x3 && isInt 0 (intOf x3) x2 && isInt 1 1000000000 x4) := by simp [isSt]
                rw [eS] at k
                cases b3 : isInt 0 ((n : Int) - 1) x3 with
                | false =>
                  refine rd_cT rfl ?_
                  rw [b3] at k
                  walk_at "rd"
                  exact k _ (Same.refl _)
                | true =>
                  refine rd_cF rfl ?_
                  rw [b3, Bool.true_and] at k
                  walk_at "rd"
                  obtain ⟨i3, rfl⟩ : ∃ i, x3 = .int i := by cases x3 <;> first | exact ⟨_, rfl⟩ | cases b3
                  refine ⟨_, _, _, rfl, h2.1, ?_⟩
                  walk_at "rd"
                  cases b2 : isInt 0 i3 x2 with
                  | false =>
                    refine rd_cT rfl ?_
                    rw [show isInt 0 (intOf (.int i3)) x2 = false from b2] at k
                    walk_at "rd"
                    exact k _ (Same.refl _)
                  | true =>
                    refine rd_cF rfl ?_
                    rw [show isInt 0 (intOf (.int i3)) x2 = true from b2, Bool.true_and] at k
                    walk_at "rd"
                    exact ⟨_, _, _, rfl, h4.1, k _ (Same.refl _)⟩
              · walk_at "rd"
                refine rd_isi_lst_tuple hq ?_
                walk_at "rd"
                refine rd_cF rfl ?_
                walk_at "rd"
                exact k _ (Same.refl _)
            · rw [show mBind [.inl "paste", .inr 3, .inr 4, .inr 5] [x1, x2, x3, x4] = none by simp [mBind, e1]]
              walk_at "rd"
              rcases hv with ⟨hq, rfl⟩ | ⟨hq, rfl⟩
              · have eS : isSt n [x1, x2, x3, x4] = false := by
                  unfold isSt
                  split
                  · rename_i e; cases e
                  · rename_i e
                    cases e
                    simp only [Bool.and_eq_false_imp, decide_eq_true_eq]
                    intro z; subst z; exact absurd rfl e1
                  · rfl
                rw [eS] at k
                exact k _ (Same.refl _)
              · exact k _ (Same.refl _)
          | [], l, _, _ => simp at l
          | [_], l, _, _ => simp at l
          | [_, _], l, _, _ => simp at l
          | [_, _, _], l, _, _ => simp at l
          | _ :: _ :: _ :: _ :: _ :: _, l, _, _ => simp at l
        · refine .inr ⟨a, _, rfl, hv.imp (·.1) (·.1), .inl ⟨l4, ?_⟩⟩
          walk_at "rd"
          rw [hb4 l4] at k
          exact k _ (Same.refl _)
      by_cases l2 : xs.length = 2
      · match xs, l2, hxs, hv with
        | [x1, x2], _, hxs, hv =>
          have h1 := hxs x1 (.head _)
          have h2 := hxs x2 (.tail _ (.head _))
          refine .inr ⟨a, [x1, x2], rfl, hv.imp (·.1) (·.1), .inr ⟨rfl, ⟨scal_ns h1.1, fun _ => trivial⟩, ?_⟩⟩
          by_cases e1 : x1 = .str "write"
          · subst e1
            rw [show mBind [.inl "write", .inr 2] [V.str "write", x2] = some [(2, x2)] by simp [mBind]]
            rcases hv with ⟨hq, rfl⟩ | ⟨hq, rfl⟩
            · walk_at "rd"
              refine rd_isi_tup_tuple hq ?_
              walk_at "rd"
              refine rd_cT rfl ?_
              walk_at "rd"
              refine ⟨_, rfl, h2.1, h2.2, fun H' S => ?_⟩
              have eS : isSt n [V.str "write", x2] = isWd x2 := by simp [isSt]
              rw [eS] at k
              exact k _ S
            · walk_at "rd"
              refine rd_isi_lst_tuple hq ?_
              walk_at "rd"
              refine rd_cF rfl ?_
              exact two _ fun _ => rfl
          · rw [show mBind [.inl "write", .inr 2] [x1, x2] = none by simp [mBind, e1]]
            refine two _ fun _ => ?_
            rcases hv with ⟨_, rfl⟩ | ⟨_, rfl⟩
            · unfold isSt
              split
              · rename_i e
                cases e
                simp only [Bool.and_eq_false_imp, decide_eq_true_eq]
                intro z; subst z; exact absurd rfl e1
              · rename_i e; cases e
              · rfl
            · rfl
        | [], l, _, _ => simp at l
        | [_], l, _, _ => simp at l
        | _ :: _ :: _ :: _, l, _, _ => simp at l
      · refine .inr ⟨a, _, rfl, hv.imp (·.1) (·.1), .inl ⟨l2, two _ fun l4 => ?_⟩⟩
        rcases hv with ⟨_, rfl⟩ | ⟨_, rfl⟩
        · unfold isSt
          split
          · exact absurd rfl l2
          · exact absurd rfl l4
          · rfl
        · rfl
end
section
variable {P : Program} {w : World} {K : PySem.W.Frag} {mg : Str → Option Value} {base : Heap} {CText CPart CCounter CEditor CKeyReader CTextError CInvalidStep CTooLong CInvalidPlace CInvalidLetter CARGUMENTS c_law p_law : Addr}
theorem okR_Text_init (T : Txt K mg CText CPart CCounter CEditor CKeyReader CTextError CInvalidStep CTooLong CInvalidPlace CInvalidLetter CARGUMENTS c_law p_law w) : KOk P w K mg base (L2.CX P w) 4 CText (spStar 1 (sp_Text_initR K CInvalidStep CTooLong CText)) := by
  refine T.d_Text_init.okX sc_Text_init (fun f cdv A outer s H vs Q E hr h => ?_)
  · obtain ⟨x, dx, m, rs, rfl, hx, hm, ss, v, hst, ok, hv, few, bad⟩ := h
    have hlt : ss.length < rs.length := (List.getElem?_eq_some_iff.mp hv).1
    obtain ⟨t_MAX_SIZE_texts, h_MAX_SIZE_texts⟩ := T.k_MAX_SIZE_texts; obtain ⟨t_MAX_STEPS, h_MAX_STEPS⟩ := T.k_MAX_STEPS; refine ⟨_, (pss_cons (ps_set (i := 2) sc_Text_init.nd rfl (Or.inl rfl) (pe_lst pa_nil))
    (pss_cons (ps_asg (pe_tup (pa_cons pe_str (pa_cons pe_int pa_nil))) (pg_tupK (K := K) (n := 2) rfl rfl (pgs_cons (pg_name (i := 3) sc_Text_init.nd rfl (Or.inl rfl)) (pgs_cons (pg_name (i := 4) sc_Text_init.nd rfl (Or.inl rfl)) pgs_nil))))
    (pss_cons (ps_for (passes_of rfl) rfl (pi_enumT T.n_enumerate (pa_cons (pv 1) pa_nil)) (pg_tupK (K := K) (n := 2) rfl rfl (pgs_cons (pg_name (i := 5) sc_Text_init.nd rfl (Or.inl rfl)) (pgs_cons (pg_name (i := 6) sc_Text_init.nd rfl (Or.inl rfl)) pgs_nil))) (pss_cons (ps_if (PW.pt (pw_or (pt_cmpR (eqK (K := K) rfl hr.units) (pv 5) (pe_glob (v := .int 30) rfl h_MAX_STEPS ⟨_, rfl⟩) (nomark _)) (pw_or1 (pt_not (pt_val (pe_g (okG_is_step (K := K) T) (hr.mono (by decide)) pass0 (pa_cons (pv 6) (pa_cons (pv 4) pa_nil)))))))) (pss_one (ps_rzI T.x_InvalidStep (ok_InvalidStep_init (K := K) T) (hr.mono (by decide)) (takes_of rfl rfl rfl rfl) (pa_cons (pv 5) pa_nil)))
    pss_nil)
    (pss_cons (ps_if (pt_cmpR (eqK (K := K) rfl hr.units) (pe_ix (ixK (K := K) rfl) (pv 6) pe_int (fun _ _ => rfl)) pe_str (nomark _)) (pss_cons (ps_expr (pe_bmK (K := K) rfl PySem.F.plainAttrs_list PySem.F.slot_list_append PySem.F.type_list_append mt_append (pv 2) (pa_cons (pe_k (ok_Part_init (K := K) T) (hr.mono (by decide)) T.g_Part pass0 (pa_cons (pv 4) (pa_cons (pe_callB (lenK (K := K) rfl) rfl T.n_len (by decide +kernel) (pa_cons (pe_ix (ixK (K := K) rfl) (pv 6) pe_int (fun _ _ => rfl)) pa_nil)) (pa_cons pe_bl (pa_cons (pe_callB (lenK (K := K) rfl) rfl T.n_len (by decide +kernel) (pa_cons (pv 3) pa_nil)) (pa_cons pe_int pa_nil)))))) pa_nil)))
    (pss_one (ps_set (i := 3) sc_Text_init.nd rfl (Or.inl rfl) (pe_op (addK (K := K) rfl) (pv 3) (pe_ix (ixK (K := K) rfl) (pv 6) pe_int (fun _ _ => rfl))))))
    (pss_one (ps_expr (pe_bmK (K := K) rfl PySem.F.plainAttrs_list PySem.F.slot_list_append PySem.F.type_list_append mt_append (pv 2) (pa_cons (pe_k (ok_Part_init (K := K) T) (hr.mono (by decide)) T.g_Part pass0 (pa_cons (pv 4) (pa_cons (pe_op oMul (pe_op (addK (K := K) rfl) (pe_op op_sub (pe_ix (ixK (K := K) rfl) (pv 6) pe_int (fun _ _ => rfl)) (pe_ix (ixK (K := K) rfl) (pv 6) pe_int (fun _ _ => rfl))) pe_int) (pe_ix (ixK (K := K) rfl) (pv 6) pe_int (fun _ _ => rfl))) (pa_cons pe_bl (pa_cons (pe_ix (ixK (K := K) rfl) (pv 6) pe_int (fun _ _ => rfl)) (pa_cons (pe_ix (ixK (K := K) rfl) (pv 6) pe_int (fun _ _ => rfl)) pa_nil)))))) pa_nil)))))
    (pss_cons (ps_set (i := 4) sc_Text_init.nd rfl (Or.inl rfl) (pe_op (addK (K := K) rfl) (pe_fldK (K := K) rfl (pe_ix (ixK (K := K) rfl) (pv 2) (pe_un un_neg pe_int) (fun _ _ => rfl)) (by rfl)) (pe_fldK (K := K) rfl (pe_ix (ixK (K := K) rfl) (pv 2) (pe_un un_neg pe_int) (fun _ _ => rfl)) (by rfl))))
    (pss_one (ps_if (pt_cmpR op_gt (pv 4) (pe_glob (v := .int 1000000000000000000) rfl h_MAX_SIZE_texts ⟨_, rfl⟩) (nomark _)) (pss_one (ps_rz T.x_TooLong (takes_of rfl rfl rfl rfl)))
    pss_nil))))))
    (pss_cons (ps_fld (pv 0) (pv 1) rfl)
    (pss_cons (ps_fld (pv 0) (pv 3) rfl)
    (pss_cons (ps_fld (pv 0) (pv 2) rfl)
    (pss_one (ps_fld (pv 0) (pv 4) rfl)))))))), ?_⟩
    walk_at "rd"
    refine ⟨Nat.zero_le _, fun pl hpl => ?_⟩
    walk_at "rd"
    refine ⟨two_line, fun tp htp => ?_⟩
    refine rd_gtup (SqT.of upd_same) rfl ?_
    walk_at "rd"
    have S1 : Same H (upd (upd H pl (.lst [])) tp (.tup [.str "", .int 0])) := Same.new (Same.new (Same.refl _) hpl) htp
    refine ⟨m, rs, rfl, Same.tup S1 hm, for_enumT (xs := rs) (fun i σ H' => i ≤ ss.length ∧ ∃ ps v5 v6, σ = [some (.ref x), some (.ref m), some (.ref pl), some (.str (mkS (tyL (ss.take i)))), some (.int (sz (ss.take i) : Nat)), v5, v6] ∧ Same H H' ∧ H' pl = some (.lst ps) ∧ PartsAt CPart H' ps (ss.take i))
      ⟨Nat.zero_le _, [], _, _, by rw [emp_mk]; rfl, S1, lk_new htp upd_same, rfl, fun j s hj => by simp at hj⟩ (fun i σ H' _ ⟨_, _, _, _, _, S, _⟩ => Same.tup S hm) ?_ ?_⟩
    · rintro i v' tu σ H' hv' ⟨hi, ps, v5, v6, rfl, S, hpl', hp⟩ hT
      have hpsl : ps.length < sizeLine := by rw [hp.1, List.length_take]; have := line30; omega
      have S2 := Same.new (o := HO.tup [.int (i : Nat), v']) S hT
      -- what stands at i: no step, or one; then it goes on, or the text is too long
      have all : (i = ss.length ∧ (i = 30 ∨ StVal K H (sz (ss.take i) : Nat) v' false) ∧ ∀ d H', Same H H' → H' d = some (.xd [("index", .int (i : Nat))]) → E (.ref CInvalidStep) (some d) H') ∨
          ∃ s', StepAt K H v' s' ∧ okStep (sz (ss.take i)) s' ∧ i < 30 ∧ ((i < ss.length ∧ ss[i]? = some s' ∧ sz (ss.take i) + len1 s' ≤ 1000000000000000000) ∨ (1000000000000000000 < sz (ss.take i) + len1 s' ∧ ∀ H', Same H H' → E (.ref CTooLong) none H')) := by
        by_cases hl : i < ss.length
        · refine .inr ⟨ss[i], ?_, (ok_at ok (List.getElem?_eq_getElem hl)).1, by omega, .inl ⟨hl, List.getElem?_eq_getElem hl, (ok_at ok (List.getElem?_eq_getElem hl)).2⟩⟩
          obtain ⟨v0, e0, st⟩ := hst.2 i _ (List.getElem?_eq_getElem hl)
          rw [List.getElem?_take, if_pos hl, hv'] at e0
          cases e0
          exact st
        · have e : i = ss.length := by omega
          subst e
          rw [hv'] at hv
          cases hv
          rw [List.take_length]
          rcases bad with ⟨b1, b2⟩ | ⟨s, b1, b2, b3, b4, b5⟩
          · exact .inl ⟨rfl, b1, b2⟩
          · exact .inr ⟨s, b1, b2, b3, .inr ⟨b4, b5⟩⟩
      walk_at "rd"
      refine rd_gtup (SqT.of upd_same) rfl ?_
      walk_at "rd"
      rcases all with ⟨ei, hb, hE⟩ | ⟨s', hst', hok, hi30, hc⟩
      · refine rd_ite (fun h30 => ?_) (fun h30 => ?_)
        · refine rd_cT rfl ?_
          refine rd_rzI ?_
          walk_at "rd"
          exact rd_mk1 (by omega) fun d hd => hE d _ (Same.new S2 hd) upd_same
        · walk_at "rd"
          have hb' : StVal K H (sz (ss.take i) : Nat) v' false := hb.resolve_left (by omega)
          refine ⟨_, _, _, rfl, hb'.mono S2, fun Hb S3 => ?_⟩
          walk_at "rd"
          refine rd_cT rfl ?_
          refine rd_rzI ?_
          walk_at "rd"
          exact rd_mk1 (by omega) fun d hd => hE d _ (Same.new (S2.trans S3) hd) upd_same
      · refine rd_dF (by omega) ?_
        walk_at "rd"
        refine ⟨_, _, _, rfl, (hst'.val hok).mono S2, fun Hb S3 => ?_⟩
        have Sb : Same H Hb := S2.trans S3
        have hplb : Hb pl = some (.lst ps) := S3 _ _ (lk_new hT hpl')
        have hpb : PartsAt CPart Hb ps (ss.take i) := hp.mono ((Same.new (Same.refl _) hT).trans S3)
        obtain ⟨a, rfl, hq⟩ := hst'
        have hqb : SqT K Hb a (stV s') := Same.tup Sb hq
        walk_at "rd"
        refine rd_cF rfl ?_
        walk_at "rd"
        have tyz : (tyL (ss.take i)).length ≤ sizeLine := Nat.le_trans (tyL_take_le i) (tyL_line ok few)
        cases s' with
        | wr w =>
          refine rd_ixT ?_ hqb rfl
          walk_at "rd"
          refine rd_dT rfl ?_
          walk_at "rd"
          refine rd_tyL (SqL.of hplb) _ ?_
          walk_at "rd"
          refine rd_ixT ?_ hqb rfl
          walk_at "rd"
          refine rd_len_str (str_small hok.2.1) ?_
          walk_at "rd"
          refine rd_len_str (by rw [mkS_len]; exact tyz) ?_
          walk_at "rd"
          refine rd_mkPart (fun p dxp Hc np SC hpc => ?_)
          walk_at "rd"
          have hplc := SC _ _ hplb
          have nplp : pl ≠ p := ne_of_none hplb np
          refine rd_append hplc hpsl ?_
          have S3 := Same.mut (o := HO.lst (ps ++ [V.ref p])) (Sb.trans SC) hpl
          have E2 := @upd_same Hc pl (HO.lst (ps ++ [V.ref p]))
          have E4 := lk_ne (o := HO.lst (ps ++ [V.ref p])) nplp.symm hpc
          have E3 := fun hs => hpb.snoc (i := i) (s := .wr w) hs (But.at (o := HO.lst (ps ++ [V.ref p])) (But.same SC)) (fun dx fs e => by rw [hplb] at e; cases e) (v := .ref p) ⟨p, dxp, rfl, by rw [mkS_len] at E4; exact E4⟩
          revert S3 E2 E3 E4
          generalize upd Hc pl (HO.lst (ps ++ [V.ref p])) = Hd
          intro S3 E2 E4 E3
          walk_at "rd"
          refine rd_ixT ?_ (Same.tup S3 hq) rfl
          refine rd_add_str (by have := tyL_take_le (ss := ss) i; have := tyL_small ok; have := hok.2.1; rw [mkS_len, sizeLine_eq]; omega) ?_
          walk_at "rd"
          refine rd_ixI ?_ (SqL.of E2) (atI_last _ _)
          refine rd_fld_at E4 T.cPart T.na_Part_start partF_start ?_
          walk_at "rd"
          refine rd_ixI ?_ (SqL.of E2) (atI_last _ _)
          refine rd_fld_at E4 T.cPart T.na_Part_length partF_length ?_
          walk_at "rd"
          simp only [len1] at hc
          rcases hc with ⟨hil, hs, hz⟩ | ⟨hz, hE⟩
          · refine rd_dF (by omega) ?_
            walk_at "rd"
            refine ⟨by omega, _, some (.int i), some (.ref a), ?_, S3, E2, E3 hs⟩
            rw [show (w : Str) = mkS (tl w) from (mkS_tl w).symm, mkS_app, tyL_take hs, sz_take hs, mkS_tl]
            rfl
          · refine rd_dT (by omega) ?_
            exact hE _ S3
        | pa f l t =>
          obtain ⟨o1, o2, o3, o4⟩ := hok
          refine rd_ixT ?_ hqb rfl
          walk_at "rd"
          refine rd_dF (by decide +kernel) ?_
          walk_at "rd"
          refine rd_tyL (SqL.of hplb) _ ?_
          walk_at "rd"
          refine rd_ixT ?_ hqb rfl
          walk_at "rd"
          refine rd_ixT ?_ hqb rfl
          walk_at "rd"
          refine rd_ixT ?_ hqb rfl
          walk_at "rd"
          have hsz := sz_le (ok_take ok i)
          refine rd_mul_int (Or.inl ⟨by omega, by omega⟩) ?_
          walk_at "rd"
          refine rd_ixT ?_ hqb rfl
          walk_at "rd"
          refine rd_ixT ?_ hqb rfl
          walk_at "rd"
          refine rd_mkPart (fun p dxp Hc np SC hpc => ?_)
          walk_at "rd"
          have hplc := SC _ _ hplb
          have nplp : pl ≠ p := ne_of_none hplb np
          refine rd_append hplc hpsl ?_
          rw [show ((l : Int) - f + 1) * t = (((l - f + 1) * t : Nat) : Int) by rw [Int.natCast_mul]; congr 1; omega] at hpc
          have S3 := Same.mut (o := HO.lst (ps ++ [V.ref p])) (Sb.trans SC) hpl
          have E2 := @upd_same Hc pl (HO.lst (ps ++ [V.ref p]))
          have E4 := lk_ne (o := HO.lst (ps ++ [V.ref p])) nplp.symm hpc
          have E3 := fun hs => hpb.snoc (i := i) (s := .pa f l t) hs (But.at (o := HO.lst (ps ++ [V.ref p])) (But.same SC)) (fun dx fs e => by rw [hplb] at e; cases e) (v := .ref p) ⟨p, dxp, rfl, E4⟩
          revert S3 E2 E3 E4
          generalize upd Hc pl (HO.lst (ps ++ [V.ref p])) = Hd
          intro S3 E2 E4 E3
          walk_at "rd"
          refine rd_ixI ?_ (SqL.of E2) (atI_last _ _)
          refine rd_fld_at E4 T.cPart T.na_Part_start partF_start ?_
          walk_at "rd"
          refine rd_ixI ?_ (SqL.of E2) (atI_last _ _)
          refine rd_fld_at E4 T.cPart T.na_Part_length partF_length ?_
          walk_at "rd"
          simp only [len1] at hc
          rcases hc with ⟨hil, hs, hz⟩ | ⟨hz, hE⟩
          · refine rd_dF (by omega) ?_
            walk_at "rd"
            refine ⟨by omega, _, some (.int i), some (.ref a), ?_, S3, E2, E3 hs⟩
            rw [tyL_take hs, sz_take hs]
            simp only [ty1, List.append_nil, len1, Int.natCast_add]
            rfl
          · refine rd_dT (by omega) ?_
            exact hE _ S3
    · rintro σ H' ⟨hi, _⟩
      omega
end
section
variable {P : Program} {w : World} {K : PySem.W.Frag} {mg : Str → Option Value} {base : Heap} {CText CPart CCounter CEditor CKeyReader CTextError CInvalidStep CTooLong CInvalidPlace CInvalidLetter CARGUMENTS c_law p_law : Addr}
theorem okR_Text_call (T : Txt K mg CText CPart CCounter CEditor CKeyReader CTextError CInvalidStep CTooLong CInvalidPlace CInvalidLetter CARGUMENTS c_law p_law w) : XOk P w K mg base (L2.CX P w) 5 (CallO K CText) (sp_Text_callR K CInvalidPlace CText CPart) := by
  refine T.d_Text_call.okX sc_Text_call (fun vs H Q E h => ?len) (fun f cdv A outer s H vs Q E hr h => ?_)
  case len => obtain ⟨a, t, v, rfl, _⟩ := h; rfl
  · obtain ⟨a, t, v, rfl, ht, hv, hi, k⟩ := h
    refine ⟨_, (pss_cons (ps_expr (pe_m (pv 0) T.cText (okR_Text_check_place (K := K) T) (hr.mono (by decide)) (passX (takes_of rfl rfl rfl rfl)) (pa_cons (pv 1) pa_nil)))
    (pss_one (ps_ret (pe_m (pv 0) T.cText (ok_Text_key_of (K := K) T) (hr.mono (by decide)) pass0 (pa_cons (pv 1) pa_nil))))), ?_⟩
    walk_at "rd"
    refine rd_m_at ht.insM ?_
    walk_at "rd"
    exact ⟨a, t, v, rfl, ht, hv, hi, k⟩
end
section
variable {P : Program} {w : World} {K : PySem.W.Frag} {mg : Str → Option Value} {base : Heap} {CText CPart CCounter CEditor CKeyReader CTextError CInvalidStep CTooLong CInvalidPlace CInvalidLetter CARGUMENTS c_law p_law : Addr}
theorem okM_Text_init (T : Txt K mg CText CPart CCounter CEditor CKeyReader CTextError CInvalidStep CTooLong CInvalidPlace CInvalidLetter CARGUMENTS c_law p_law w) : KOk P w K mg base (L2.CX P w) 4 CText (fun vs H Q E => spStar 1 (sp_Text_init K CText CPart) vs H Q E ∨ spStar 1 (sp_Text_initR K CInvalidStep CTooLong CText) vs H Q E) := (ok_Text_init T).or (okR_Text_init T) (by decide) (by decide)
end
section
variable {P : Program} {w : World} {K : PySem.W.Frag} {mg : Str → Option Value} {base : Heap} {CText CPart CCounter CEditor CKeyReader CTextError CInvalidStep CTooLong CInvalidPlace CInvalidLetter CARGUMENTS c_law p_law : Addr}
theorem okM_Text_call (T : Txt K mg CText CPart CCounter CEditor CKeyReader CTextError CInvalidStep CTooLong CInvalidPlace CInvalidLetter CARGUMENTS c_law p_law w) : OOk P w K mg base (L2.CX P w) 5 CText (fun vs H Q E => sp_Text_call K CText CPart vs H Q E ∨ sp_Text_callR K CInvalidPlace CText CPart vs H Q E) := OOk.or (ok_Text_call T) (okR_Text_call T) (by decide) (by decide)
end
local macro_rules | `(tactic| walk_at "rd1_Fr") => `(tactic| first
  | with_reducible refine rd_seq ?_ | with_reducible refine rd_asg ?_ | with_reducible refine rd_name ?_ | ((with_reducible refine' rd_var ?k1 ?_); (case k1 => rfl)) | with_reducible refine rd_C ?_ | with_reducible refine rd_op ?_ | with_reducible refine rd_cons ?_ | with_reducible refine rd_nil ?_
  | with_reducible refine rd_test ?_ | with_reducible refine rd_tB ?_ | with_reducible refine rd_bl ?_ | with_reducible refine rd_ifS ?_ | with_reducible refine rd_and ?_ | with_reducible refine rd_or ?_ | with_reducible refine rd_not ?_ | with_reducible refine rd_andV ?_ | with_reducible refine rd_orV ?_ | with_reducible refine rd_notV ?_ | with_reducible refine rd_chain ?_
  | with_reducible refine rd_if ?_ | with_reducible refine rd_g ?_ | with_reducible refine rd_m ?_ | with_reducible refine rd_star ?_ | with_reducible refine rd_tup ?_ | with_reducible refine rd_lst ?_ | with_reducible refine rd_fld ?_ | with_reducible refine rd_cb ?_ | with_reducible refine rd_un ?_ | with_reducible refine rd_makeR ?_ | with_reducible refine rd_makeS ?_
  | with_reducible refine rd_bm ?_ | with_reducible refine rd_bm0 ?_ | with_reducible refine rd_next ?_ | with_reducible refine rd_break ?_ | with_reducible refine rd_cont ?_ | with_reducible refine rd_ret ?_ | with_reducible refine rd_retN ?_ | with_reducible refine rd_drop ?_ | with_reducible refine rd_gcons ?_ | with_reducible refine rd_gnil ?_ | with_reducible refine rd_gsub ?_
  | ((with_reducible refine' rd_aug ?k1 ?_); (case k1 => rfl)) | with_reducible refine rd_ipI ?_ | with_reducible refine rd_sfld ?_ | with_reducible refine rd_for ?_ | with_reducible refine rd_iStr ?_ | with_reducible refine rd_iList ?_ | with_reducible refine rd_iTup ?_ | with_reducible refine rd_iRng1 ?_ | with_reducible refine rd_iRng2 ?_ | with_reducible refine rd_iEnumT ?_ | with_reducible refine rd_match ?_ | with_reducible refine rd_par ?_ | with_reducible refine rd_two ?_
  | with_reducible refine rd_sl ?_ | with_reducible refine rd_noPart ?_ | with_reducible refine rd_part ?_ | with_reducible refine rd_pint ?_ | with_reducible refine rd_listRg ?_ | with_reducible refine rd_rg1 ?_ | with_reducible refine rd_rg2 ?_ | with_reducible refine rd_ixO ?_ | with_reducible refine rd_U ?_ | with_reducible refine rd_int_int ?_ | with_reducible refine rd_int_bl ?_ | with_reducible refine rd_min2 ?_ | with_reducible refine rd_max2 ?_ | with_reducible refine rd_in_sign ?_ | with_reducible refine rd_isN ?_ | with_reducible refine rd_notN ?_
  | with_reducible refine rd_lc ?_ | with_reducible refine rd_yes ?_ | with_reducible refine rd_prop ?_ | with_reducible refine rd_cmeth ?_ | with_reducible refine rd_o ?_ | with_reducible refine rd_add_int ?_ | with_reducible refine rd_sub ?_ | with_reducible refine rd_eq_int ?_ | with_reducible refine rd_eq_str ?_ | with_reducible refine rd_eq_bl ?_ | with_reducible refine rd_ne_int ?_ | with_reducible refine rd_ne_str ?_ | with_reducible refine rd_ne_bl ?_ | with_reducible refine rd_I0 ?_
  | with_reducible refine rd_isi_int_int ?_ | with_reducible refine rd_isi_int_bool ?_ | with_reducible refine rd_isi_int_str ?_ | with_reducible refine rd_isi_int_list ?_ | with_reducible refine rd_isi_int_tuple ?_ | with_reducible refine rd_isi_bl_int ?_ | with_reducible refine rd_isi_bl_bool ?_ | with_reducible refine rd_isi_bl_str ?_ | with_reducible refine rd_isi_bl_list ?_ | with_reducible refine rd_isi_bl_tuple ?_ | with_reducible refine rd_isi_str_int ?_ | with_reducible refine rd_isi_str_bool ?_ | with_reducible refine rd_isi_str_str ?_ | with_reducible refine rd_isi_str_list ?_ | with_reducible refine rd_isi_str_tuple ?_ | with_reducible refine rd_isi_non_int ?_ | with_reducible refine rd_isi_non_bool ?_ | with_reducible refine rd_isi_non_str ?_ | with_reducible refine rd_isi_non_list ?_ | with_reducible refine rd_isi_non_tuple ?_)
local macro_rules | `(tactic| walk_at "rd_Fr") => `(tactic| repeat walk_at "rd1_Fr")
local macro_rules | `(tactic| walk_at "same_Fr") => `(tactic| first | assumption | exact Same.refl _ | (refine Same.new ?_ (by assumption); walk_at "same_Fr") | (refine Same.mut ?_ (by assumption); walk_at "same_Fr") | (refine Same.trans ?_ (by assumption); walk_at "same_Fr"))
section
variable {P : Program} {w : World} {K : PySem.W.Frag} {mg : Str → Option Value} {base : Heap} {CText CPart CCounter CEditor CKeyReader CTextError CInvalidStep CTooLong CInvalidPlace CInvalidLetter CARGUMENTS c_law p_law : Addr}
theorem ok_x_law_dice (T : Txt K mg CText CPart CCounter CEditor CKeyReader CTextError CInvalidStep CTooLong CInvalidPlace CInvalidLetter CARGUMENTS c_law p_law w) : GOk P w K mg base CX0 1 "_law_dice" (sp_x_law_dice K) := by
  refine T.d_x_law_dice.ok sc_x_law_dice (fun vs H Q E h => ?len) (fun f cdv A outer s H vs Q E hr h => ?_)
  case len => obtain ⟨a, sc, rfl, _⟩ := h; rfl
  · obtain ⟨a, sc, rfl, ha, k⟩ := h
    refine ⟨_, (pss_cons (ps_set (i := 1) sc_x_law_dice.nd rfl (Or.inl rfl) pe_int)
    (pss_cons (ps_for PassesOwn.never rfl (pi_listK (K := K) rfl (pv 0)) (pg_name (i := 2) sc_x_law_dice.nd rfl (Or.inl rfl)) (pss_one (ps_set (i := 1) sc_x_law_dice.nd rfl (Or.inl rfl) (pe_op op_mod (pe_callTy cInt rfl T.n_int (by decide +kernel) (pa_cons (pe_op (addK (K := K) rfl) (pe_op (addK (K := K) rfl) (pe_op oMul (pv 1) pe_int) (pe_op oMul (pe_op op_mod (pe_callTy cInt rfl T.n_int (by decide +kernel) (pa_cons (pv 2) pa_nil)) pe_int) pe_int)) pe_int) pa_nil)) pe_int))))
    (pss_one (ps_ret (pe_lst (pa_cons (pv 0) (pa_cons pe_int (pa_cons (pe_op oMul (pv 1) (pe_callTy cInt rfl T.n_int (by decide +kernel) (pa_cons (pe_cmpR op_gt (pe_callB (lenK (K := K) rfl) rfl T.n_len (by decide +kernel) (pa_cons (pv 0) pa_nil)) pe_int (nomark _)) pa_nil))) (pa_cons pe_int pa_nil))))))))), ?_⟩
    refine rd_startE (show start N_x_law_dice [.ref a] = [some (.ref a), none, none] from rfl) ?_
    walk_at "rd_Fr"
    refine ⟨_, rfl, ⟨_, ha⟩, for_list (xs := sc.map V.int) (fun i σ H' => ∃ m : Int, ∃ v2, σ = [some (.ref a), some (.int m), v2] ∧ H' = H ∧ 0 ≤ m ∧ m < 2147483647) ⟨0, _, rfl, rfl, by omega, by omega⟩ (fun i σ H' _ ⟨_, _, _, e, _⟩ => by rw [e]; exact ha) ?_ ?_⟩
    · rintro i v σ H' hv ⟨m, v2, rfl, rfl, m0, m1⟩
      rw [List.getElem?_map] at hv
      obtain ⟨c, hc, rfl⟩ := Option.map_eq_some_iff.mp hv
      walk_at "rd_Fr"
      refine rd_mul_int (.inr ⟨by decide, by decide⟩) ?_
      walk_at "rd_Fr"
      refine rd_I (by decide) ?_
      walk_at "rd_Fr"
      refine rd_mul_int (.inr ⟨by decide, by decide⟩) ?_
      walk_at "rd_Fr"
      refine rd_I (by decide) ?_
      walk_at "rd_Fr"
      exact ⟨_, _, rfl, rfl, Int.emod_nonneg _ (by decide), Int.emod_lt_of_pos _ (by decide)⟩
    · rintro σ H' ⟨m, v2, rfl, rfl, m0, m1⟩
      walk_at "rd_Fr"
      refine rd_len_lst ha ?_
      walk_at "rd_Fr"
      refine rd_mul_int (.inl ⟨by omega, by omega⟩) ?_
      walk_at "rd_Fr"
      refine ⟨by rw [sizeLine_eq]; show 4 ≤ 16777216; decide, fun r n1 => ?_⟩
      exact k r _ (Same.new (Same.refl _) n1) n1 ⟨a, sc, 0, _, _, upd_same, (Same.new (Same.refl _) n1).seq ha⟩
end
section
variable {P : Program} {w : World} {K : PySem.W.Frag} {mg : Str → Option Value} {base : Heap} {CText CPart CCounter CEditor CKeyReader CTextError CInvalidStep CTooLong CInvalidPlace CInvalidLetter CARGUMENTS c_law p_law : Addr}
theorem ok_x_law_next (T : Txt K mg CText CPart CCounter CEditor CKeyReader CTextError CInvalidStep CTooLong CInvalidPlace CInvalidLetter CARGUMENTS c_law p_law w) : GOk P w K mg base CX0 1 "_law_next" (sp_x_law_next K) := by
  refine T.d_x_law_next.ok sc_x_law_next (fun vs H Q E h => ?len) (fun f cdv A outer s H vs Q E hr h => ?_)
  case len => obtain ⟨r, many, rfl, _⟩ := h; rfl
  · obtain ⟨r, many, rfl, ⟨sa, sc, i, sd, e, hr', hsc⟩, m1, m2, k⟩ := h
    refine ⟨_, (pss_cons (ps_if (pt_cmpR op_gt (pe_ix (ixK (K := K) rfl) (pv 0) pe_int (fun _ _ => rfl)) pe_int (nomark _)) (pss_cons (ps_set (i := 2) sc_x_law_next.nd rfl (Or.inl rfl) (pe_op op_mod (pe_callTy cInt rfl T.n_int (by decide +kernel) (pa_cons (pe_ix (ixK (K := K) rfl) (pv 0) pe_int (fun _ _ => rfl)) pa_nil)) (pv 1)))
    (pss_cons (ps_asg (pe_op op_fdivW (pe_ix (ixK (K := K) rfl) (pv 0) pe_int (fun _ _ => rfl)) (pv 1)) (pg_sub (pv 0) pe_int set_list))
    (pss_one (ps_ret (pv 2)))))
    pss_nil)
    (pss_cons (ps_asg (pe_op (addK (K := K) rfl) (pe_ix (ixK (K := K) rfl) (pv 0) pe_int (fun _ _ => rfl)) pe_int) (pg_sub (pv 0) pe_int set_list))
    (pss_cons (ps_if (pt_cmpR op_le (pe_ix (ixK (K := K) rfl) (pv 0) pe_int (fun _ _ => rfl)) (pe_callB (lenK (K := K) rfl) rfl T.n_len (by decide +kernel) (pa_cons (pe_ix (ixK (K := K) rfl) (pv 0) pe_int (fun _ _ => rfl)) pa_nil)) (nomark _)) (pss_cons (ps_set (i := 3) sc_x_law_next.nd rfl (Or.inl rfl) (pe_ix (ixK (K := K) rfl) (pe_ix (ixK (K := K) rfl) (pv 0) pe_int (fun _ _ => rfl)) (pe_op op_sub (pe_ix (ixK (K := K) rfl) (pv 0) pe_int (fun _ _ => rfl)) pe_int) (fun _ _ => rfl)))
    (pss_cons (ps_asg (pe_ifExp (pt_cmpR op_ge (pv 3) (pe_op op_pow pe_int pe_int) (nomark _)) (pe_op op_fdivW (pv 3) (pv 1)) pe_int) (pg_sub (pv 0) pe_int set_list))
    (pss_one (ps_ret (pe_op op_mod (pe_callTy cInt rfl T.n_int (by decide +kernel) (pa_cons (pv 3) pa_nil)) (pv 1))))))
    pss_nil)
    (pss_cons (ps_asg (pe_op op_mod (pe_callTy cInt rfl T.n_int (by decide +kernel) (pa_cons (pe_op oMul (pe_ix (ixK (K := K) rfl) (pv 0) pe_int (fun _ _ => rfl)) pe_int) pa_nil)) pe_int) (pg_sub (pv 0) pe_int set_list))
    (pss_one (ps_ret (pe_op op_mod (pe_callTy cInt rfl T.n_int (by decide +kernel) (pa_cons (pe_op op_fdiv (pe_ix (ixK (K := K) rfl) (pv 0) pe_int (fun _ _ => rfl)) pe_int) pa_nil)) (pv 1)))))))), ?_⟩
    walk_at "rd_Fr"
    refine rd_ixI ?_ (SqL.of hr') rfl
    walk_at "rd_Fr"
    refine rd_ite (fun h1 => ?_) (fun h1 => ?_)
    · walk_at "rd_Fr"
      refine rd_ixI ?_ (SqL.of hr') rfl
      walk_at "rd_Fr"
      refine rd_I (by omega) ?_
      walk_at "rd_Fr"
      refine rd_ixI ?_ (SqL.of hr') rfl
      walk_at "rd_Fr"
      refine rd_I (wide_div (b := 62) (by omega) (by omega) (by decide) (by decide)) ?_
      walk_at "rd_Fr"
      refine rd_setL (j := 3) hr' rfl ?_
      walk_at "rd_Fr"
      obtain ⟨a1, a2, a3⟩ := row_put (j := i) (s' := sd) (e' := e / (many : Nat)) Kp.refl hr' hsc
      exact take_fin m1 e fun n hn => k n _ hn a1 ⟨sa, sc, _, _, _, a2, a3⟩
    · walk_at "rd_Fr"
      refine rd_ixI ?_ (SqL.of hr') rfl
      walk_at "rd_Fr"
      refine rd_setL (j := 1) hr' rfl ?_
      walk_at "rd_Fr"
      obtain ⟨a1, a2, a3⟩ := row_put (j := i + 1) (s' := sd) (e' := e) Kp.refl hr' hsc
      rw [show ([V.ref sa, .int i, .int sd, .int e].set 1 (.int ((i : Int) + 1))) = [V.ref sa, .int (i + 1 : Nat), .int sd, .int e] from rfl]
      revert a1 a2 a3
      generalize upd H r (.lst [V.ref sa, .int (i + 1 : Nat), .int sd, .int e]) = Ha
      intro a1 a2 a3
      refine rd_ixI ?_ (SqL.of a2) rfl
      walk_at "rd_Fr"
      refine rd_ixI ?_ (SqL.of a2) rfl
      walk_at "rd_Fr"
      refine rd_len_lst a3 ?_
      walk_at "rd_Fr"
      rw [List.length_map]
      refine rd_ite (fun h2 => ?_) (fun h2 => ?_)
      · walk_at "rd_Fr"
        refine rd_ixI ?_ (SqL.of a2) rfl
        walk_at "rd_Fr"
        refine rd_ixI ?_ (SqL.of a2) rfl
        walk_at "rd_Fr"
        rw [show ((i + 1 : Nat) : Int) - 1 = (i : Nat) by omega]
        have hi : i < sc.length := by omega
        refine rd_ixLn a3 (v := .int sc[i]) (by rw [List.getElem?_map, List.getElem?_eq_getElem hi]; rfl) ?_
        walk_at "rd_Fr"
        generalize sc[i] = cell
        refine rd_I ⟨by decide, by decide, by decide⟩ ?_
        walk_at "rd_Fr"
        refine rd_ite (fun h3 => ?_) (fun h3 => ?_)
        · walk_at "rd_Fr"
          refine rd_I (wide_div (b := 62) (by omega) (by omega) (by decide) (by decide)) ?_
          walk_at "rd_Fr"
          refine rd_setL (j := 3) a2 rfl ?_
          walk_at "rd_Fr"
          refine rd_I (by omega) ?_
          obtain ⟨c1, c2, c3⟩ := row_put (j := i + 1) (s' := sd) (e' := cell / (many : Nat)) a1 a2 a3
          exact take_fin m1 _ fun n hn => k n _ hn c1 ⟨sa, sc, _, _, _, c2, c3⟩
        · walk_at "rd_Fr"
          refine rd_setL (j := 3) a2 rfl ?_
          walk_at "rd_Fr"
          refine rd_I (by omega) ?_
          obtain ⟨c1, c2, c3⟩ := row_put (j := i + 1) (s' := sd) (e' := 0) a1 a2 a3
          exact take_fin m1 _ fun n hn => k n _ hn c1 ⟨sa, sc, _, _, _, c2, c3⟩
      · walk_at "rd_Fr"
        refine rd_ixI ?_ (SqL.of a2) rfl
        walk_at "rd_Fr"
        refine rd_mul_int (.inr ⟨by decide, by decide⟩) ?_
        walk_at "rd_Fr"
        refine rd_I (by decide) ?_
        walk_at "rd_Fr"
        refine rd_setL (j := 2) a2 rfl ?_
        walk_at "rd_Fr"
        obtain ⟨b1, b2, b3⟩ := row_put (j := i + 1) (s' := (sd * 48271) % 2147483647) (e' := e) a1 a2 a3
        refine rd_ixI ?_ (SqL.of b2) rfl
        walk_at "rd_Fr"
        refine rd_I ⟨by decide, by decide⟩ ?_
        walk_at "rd_Fr"
        refine rd_I (by omega) ?_
        exact take_fin m1 _ fun n hn => k n _ hn b1 ⟨sa, sc, _, _, _, b2, b3⟩
end
section
variable {P : Program} {w : World} {K : PySem.W.Frag} {mg : Str → Option Value} {base : Heap} {CText CPart CCounter CEditor CKeyReader CTextError CInvalidStep CTooLong CInvalidPlace CInvalidLetter CARGUMENTS c_law p_law : Addr}
theorem ok_x_law_pick (T : Txt K mg CText CPart CCounter CEditor CKeyReader CTextError CInvalidStep CTooLong CInvalidPlace CInvalidLetter CARGUMENTS c_law p_law w) : GOk P w K mg base CX0 2 "_law_pick" (sp_x_law_pick K) := by
  refine T.d_x_law_pick.ok sc_x_law_pick (fun vs H Q E h => ?len) (fun f cdv A outer s H vs Q E hr h => ?_)
  case len => obtain ⟨r, l, xs, rfl, _⟩ := h; rfl
  · obtain ⟨r, l, xs, rfl, row, hx, hk, h1, h2, k⟩ := h
    refine ⟨_, (pss_one (ps_ret (pe_ix (ixK (K := K) rfl) (pv 1) (pe_g (ok_x_law_next (K := K) T) (hr.mono (by decide)) pass0 (pa_cons (pv 0) (pa_cons (pe_callB (lenK (K := K) rfl) rfl T.n_len (by decide +kernel) (pa_cons (pv 1) pa_nil)) pa_nil))) (fun _ _ => rfl)))), ?_⟩
    refine rd_startE (show start N_x_law_pick [.ref r, .ref l] = [some (.ref r), some (.ref l)] from rfl) ?_
    walk_at "rd_Fr"
    refine rd_len_lst hx ?_
    walk_at "rd_Fr"
    refine rd_nextD row (by omega) (by rw [sizeLine_eq] at h2; omega) fun n H1 hn k1 row1 => ?_
    have hn' : n < xs.length := by omega
    refine rd_ixLn (hk hx _ k1) (List.getElem?_eq_getElem hn') ?_
    exact k n _ H1 (List.getElem?_eq_getElem hn') k1 row1
end
local macro_rules | `(tactic| walk_at "zl") => `(tactic| (rw [sizeLine_eq]; first | decide | (simp only [List.length_cons, List.length_nil]; omega) | omega))
local macro_rules | `(tactic| walk_at "sm") => `(tactic| first | exact Same.refl _ | assumption | ((with_reducible refine' Same.trans ?sx ?sy); (case sy => assumption); (case sx => walk_at "sm")))
local macro_rules | `(tactic| walk_at "kp") => `(tactic| first | exact Kp.refl | assumption | ((with_reducible refine' Kp.trans ?kx ?ky); (case ky => assumption); (case kx => walk_at "kp")) | ((with_reducible refine' Kp.trans ?kx (Kp.same ?ky)); (case ky => assumption); (case kx => walk_at "kp")))
local macro_rules | `(tactic| walk_at "tx") => `(tactic| first | assumption | ((with_reducible refine' TX.kp ?tx1 ?tx2); (case tx1 => assumption); (case tx2 => walk_at "kp")))
local macro_rules | `(tactic| walk_at "ts") => `(tactic| first | assumption | ((with_reducible refine' TS'.kp ?tx1 ?tx2); (case tx1 => assumption); (case tx2 => walk_at "kp")) | ((with_reducible refine' ts_nil ?tx1); (case tx1 => assumption)))
local macro_rules | `(tactic| walk_at "sx") => `(tactic| first | assumption | ((with_reducible refine' SX.kp ?tx1 ?tx2); (case tx1 => assumption); (case tx2 => walk_at "kp")) | ((with_reducible refine' TS'.sx ?tx1); (case tx1 => walk_at "ts")))
local macro_rules | `(tactic| walk_at "row") => `(tactic| first | assumption | ((with_reducible refine' RowAt.mono ?tx1 ?tx2); (case tx1 => assumption); (case tx2 => walk_at "sm")))
local macro_rules | `(tactic| walk_at "ls") => `(tactic| first | assumption | ((with_reducible refine' kp_natV ?tx1 ?tx2); (case tx1 => assumption); (case tx2 => walk_at "kp")) | ((with_reducible refine' kp_sgV ?tx1 ?tx2); (case tx1 => assumption); (case tx2 => walk_at "kp")) | ((refine' Same.lk ?tx1 ?tx2); (case tx1 => assumption); (case tx2 => walk_at "sm")))
local macro_rules | `(tactic| walk_at "om") => `(tactic| first | omega | with_reducible assumption)
local macro_rules | `(tactic| walk_at "rd1") => `(tactic| first
  | with_reducible refine rd_cons ?_ | ((with_reducible refine' rd_var ?k1 ?_); (case k1 => rfl)) | with_reducible refine rd_C ?_ | with_reducible refine rd_nil ?_ | with_reducible refine rd_op ?_ | with_reducible refine rd_g ?_
  | ((with_reducible refine' rd_nameE ?k1 ?_); (case k1 => (dsimp only [List.set_cons_zero, List.set_cons_succ]; exact rfl))) | with_reducible refine rd_asg ?_ | with_reducible refine rd_seq ?_ | with_reducible refine rd_andrfl ?_ | with_reducible refine rd_prop ?_ | with_reducible refine rd_cb ?_ | with_reducible refine rd_test ?_ | with_reducible refine rd_bl ?_ | with_reducible refine rd_ifS ?_ | with_reducible refine rd_next ?_
  | with_reducible refine rd_tupN ?_ | with_reducible refine rd_lstN ?_ | with_reducible refine rd_add_int ?_ | with_reducible refine rd_sub ?_ | with_reducible refine rd_tB ?_ | with_reducible refine rd_not ?_ | with_reducible refine rd_and ?_ | with_reducible refine rd_or ?_ | with_reducible refine rd_ret ?_ | with_reducible refine rd_cmeth ?_ | with_reducible refine rd_o ?_ | with_reducible refine rd_I0 ?_
  | ((with_reducible show @Eq (Option HO) _ Option.none → _); intro) | with_reducible refine rd_m1 ?_ | with_reducible refine rd_exStr ?_ | ((with_reducible refine' rd_iNat ?k1 ?_); (case k1 => walk_at "ls"))
  | ((with_reducible refine' rd_taken ?k1 ?k2 ?k3 ?_); (case k1 => walk_at "row"); (case k2 => walk_at "om"); (case k3 => walk_at "om"))
  | ((with_reducible refine' rd_word ?k1 ?k2 ?k3 ?_); (case k1 => walk_at "row"); (case k2 => walk_at "om"); (case k3 => walk_at "om"))
  | ((with_reducible refine' rd_stepsL ?k1 ?k2 ?k3 ?k4 ?k5 ?_); (case k1 => walk_at "row"); (case k2 => walk_at "om"); (case k3 => walk_at "om"); (case k4 => walk_at "om"); (case k5 => walk_at "om"))
  | ((with_reducible refine' rd_listS ?k1 ?_); (case k1 => walk_at "ts"))
  | ((with_reducible refine' rd_ofSteps ?k1 ?k2 ?k3 ?_); (case k1 => walk_at "sx"); (case k2 => walk_at "om"); (case k3 => walk_at "om"))
  | ((with_reducible refine' rd_pSize ?k1 ?_); (case k1 => walk_at "tx"))
  | ((with_reducible refine' rd_pTyped ?k1 ?_); (case k1 => walk_at "tx"))
  | ((with_reducible refine' rd_pSteps ?k1 ?_); (case k1 => walk_at "tx"))
  | ((with_reducible refine' rd_oCall ?k1 ?k2 ?k3 ?_); (case k1 => walk_at "tx"); (case k2 => walk_at "om"); (case k3 => walk_at "om"))
  | ((with_reducible refine' rd_oItem ?k1 ?k2 ?k3 ?_); (case k1 => walk_at "tx"); (case k2 => walk_at "om"); (case k3 => walk_at "om"))
  | ((with_reducible refine' rd_opAdd ?k1 ?k2 ?k3 ?k4 ?_); (case k1 => walk_at "tx"); (case k2 => walk_at "tx"); (case k3 => walk_at "om"); (case k4 => walk_at "om"))
  | ((with_reducible refine' rd_opMul ?k1 ?k2 ?k3 ?k4 ?k5 ?_); (case k1 => walk_at "tx"); (case k2 => walk_at "om"); (case k3 => walk_at "om"); (case k4 => walk_at "om"); (case k5 => walk_at "om"))
  | ((with_reducible refine' rd_opEq ?k1 ?k2 ?_); (case k1 => walk_at "tx"); (case k2 => walk_at "tx"))
  | ((with_reducible refine' rd_opEqT ?k1 ?k2 ?_); (case k1 => walk_at "tx"); (case k2 => walk_at "ts"))
  | ((with_reducible refine' rd_opNe ?k1 ?k2 ?_); (case k1 => walk_at "tx"); (case k2 => walk_at "tx"))
  | ((with_reducible refine' rd_mTx ?k1 ?k2 ?_); (case k1 => walk_at "tx"); (case k2 => decide +kernel))
  | ((with_reducible refine' rd_mRetyped ?k1 ?k2 ?k3 ?_); (case k1 => walk_at "tx"); (case k2 => walk_at "om"); (case k3 => walk_at "om"))
  | ((with_reducible refine' rd_eqTT ?k1 ?k2 ?k3 ?k4 ?_); (case k1 => walk_at "ts"); (case k2 => walk_at "ts"); (case k3 => first | assumption | trivial); (case k4 => first | assumption | trivial))
  | ((with_reducible refine' rd_neTT ?k1 ?k2 ?k3 ?k4 ?_); (case k1 => walk_at "ts"); (case k2 => walk_at "ts"); (case k3 => first | assumption | trivial); (case k4 => first | assumption | trivial))
  | ((with_reducible refine' rd_neNN ?k1 ?k2 ?_); (case k1 => walk_at "ls"); (case k2 => walk_at "ls"))
  | ((with_reducible refine' rd_eqNN ?k1 ?k2 ?_); (case k1 => walk_at "ls"); (case k2 => walk_at "ls"))
  | ((with_reducible refine' rd_lenN ?k1 ?_); (case k1 => walk_at "ls"))
  | ((with_reducible refine' rd_lenS ?k1 ?_); (case k1 => walk_at "om"))
  | ((with_reducible refine' rd_ixN ?k1 ?k2 ?k3 ?_); (case k1 => walk_at "ls"); (case k2 => walk_at "om"); (case k3 => walk_at "om"))
  | ((with_reducible refine' rd_ixC ?k1 ?k2 ?k3 ?_); (case k1 => walk_at "om"); (case k2 => walk_at "om"); (case k3 => walk_at "om"))
  | ((with_reducible refine' rd_gtup ?k1 ?k2 ?_); (case k1 => exact SqT.of (by assumption)); (case k2 => rfl))
  | ((with_reducible refine' rd_new ?k1 ?_); (case k1 => walk_at "zl"))
  | with_reducible refine rd_ref1 ?_
  | with_reducible refine rd_nF rfl ?_ | with_reducible refine rd_dT rfl ?_ | with_reducible refine rd_cT rfl ?_ | with_reducible refine rd_cF rfl ?_
  | ((with_reducible refine' rd_dT ?k1 ?_); (case k1 => omega)) | ((with_reducible refine' rd_dF ?k1 ?_); (case k1 => omega)) | ((with_reducible refine' rd_nT ?k1 ?_); (case k1 => omega)) | ((with_reducible refine' rd_nF ?k1 ?_); (case k1 => omega)))
local macro_rules | `(tactic| walk_at "rdS") => `(tactic| repeat ((fail_if_success with_reducible show tIfS _ _ _ _ _ _); walk_at "rd1"))
local macro_rules | `(tactic| walk_at "rd1") => `(tactic| first
  | with_reducible refine rd_dget ?_ | with_reducible refine rd_dput ?_ | with_reducible refine rd_dnotin ?_ | with_reducible refine rd_din ?_ | with_reducible refine rd_disp ?_ | with_reducible refine rd_pairsN ?_ | with_reducible refine rd_pairsC ?_ | with_reducible refine rd_augSk ?_ | with_reducible refine rd_par3 ?_ | with_reducible refine rd_iZip ?_ | with_reducible refine rd_iEnum ?_)
section
variable {P : Program} {w : World} {K : PySem.W.Frag} {mg : Str → Option Value} {base : Heap} {CText CPart CCounter CEditor CKeyReader CTextError CInvalidStep CTooLong CInvalidPlace CInvalidLetter CARGUMENTS c_law p_law : Addr}
theorem ok_Counter_init (T : Txt K mg CText CPart CCounter CEditor CKeyReader CTextError CInvalidStep CTooLong CInvalidPlace CInvalidLetter CARGUMENTS c_law p_law w) : KOk P w K mg base CX0 3 CCounter (sp_Counter_init K CText CPart CCounter) := by
  refine T.d_Counter_init.ok sc_Counter_init (fun vs H Q E h => ?len) (fun f cdv A outer s H vs Q E hr h => ?_)
  case len => obtain ⟨c, dx, a, ss, rfl, _⟩ := h; rfl
  · obtain ⟨c, dx, a, ss, rfl, hx, TT, k⟩ := h
    refine ⟨_, (pss_cons (ps_fld (pv 0) (pv 1) rfl)
    (pss_one (ps_fld (pv 0) (pe_disp (pps_cons pe_int (pe_op oMul (pe_lst (pa_cons pe_int pa_nil)) (pe_callB (lenK (K := K) rfl) rfl T.n_len (by decide +kernel) (pa_cons (pe_p (pv 1) T.cText (ok_Text_typed_keys (K := K) T) (hr.mono (by decide)) pass0) pa_nil))) pps_nil) rfl rfl (by simp) (by decide)) rfl))), ?_⟩
    refine rd_startE (show start N_Counter_init [.ref c, .ref a] = [some (.ref c), some (.ref a)] from rfl) ?_
    have hty := tyL_600 TT
    walk_at "rd"
    refine rd_sfld_at hx T.cCounter T.na_Counter_text (by decide) ?_
    have B1 : But c H (upd H c (.ins CCounter dx (putF "text" (.ref a) []))) := But.at But.refl
    have e1 : upd H c (.ins CCounter dx (putF "text" (.ref a) [])) c = some (.ins CCounter dx (putF "text" (.ref a) [])) := upd_same
    have T1 := TT.butI B1 hx T.ne_Text_Counter T.ne_Part_Counter
    revert B1 e1 T1
    generalize upd H c (.ins CCounter dx (putF "text" (.ref a) [])) = H1
    intro B1 e1 T1
    walk_at "rd"
    intro d hd
    have S2 : Same H1 (upd H1 d (.dK [])) := Same.new (Same.refl _) hd
    have e2 : upd H1 d (.dK []) d = some (.dK []) := upd_same
    have hdH : H d = none := by
      cases e : H d with
      | none => rfl
      | some o =>
        have : d ≠ c := fun z => by subst z; rw [hd] at e1; cases e1
        rw [B1 _ _ this e] at hd; cases hd
    revert S2 e2
    generalize upd H1 d (.dK []) = H2
    intro S2 e2
    walk_at "rd"
    intro l0 H3 S3 e3
    walk_at "rd"
    refine rd_mul_lst e3 (by omega) (by rw [sizeLine_eq]; simp only [List.length_cons, List.length_nil]; omega) fun l hl => ?_
    have eL : (List.replicate (tyL ss).length [V.int 0]).flatten = natV (cnt ss 0) := by
      rw [cnt_zero]; exact natV_rep (tyL ss).length 0
    rw [eL]
    have S4 : Same H3 (upd H3 l (.lst (natV (cnt ss 0)))) := Same.new (Same.refl _) hl
    have e4 : upd H3 l (.lst (natV (cnt ss 0))) l = some (.lst (natV (cnt ss 0))) := upd_same
    revert S4 e4
    generalize upd H3 l (.lst (natV (cnt ss 0))) = H4
    intro S4 e4
    walk_at "rd"
    have e2' := S4 _ _ (S3 _ _ e2)
    refine ⟨e2', [((Sum.inl 0 : Key), V.ref l)], rfl, by simp, ?_⟩
    walk_at "rd"
    have nld : l ≠ d := fun z => by subst z; rw [e2'] at e4; cases e4
    have ncd : c ≠ d := fun z => by subst z; rw [hx] at hdH; cases hdH
    have e1' := S4 _ _ (S3 _ _ (S2 _ _ e1))
    refine rd_sfld_at (lk_ne ncd e1') T.cCounter T.na_Counter_known fl1 ?_
    have B5 : But c H (upd (upd H4 d (.dK (mergeK [] [((Sum.inl 0 : Key), V.ref l)]))) c (.ins CCounter dx (putF "known" (.ref d) (putF "text" (.ref a) [])))) := fun b o hb e => by
      have hbd : b ≠ d := fun z => by subst z; rw [hdH] at e; cases e
      rw [upd_ne hb, upd_ne hbd]
      exact S4 _ _ (S3 _ _ (S2 _ _ (B1 _ _ hb e)))
    have e6 : (upd (upd H4 d (.dK (mergeK [] [((Sum.inl 0 : Key), V.ref l)]))) c (.ins CCounter dx (putF "known" (.ref d) (putF "text" (.ref a) [])))) d = some (.dK [((Sum.inl 0 : Key), V.ref l)]) := by
      rw [upd_ne ncd.symm]; exact upd_same
    have nlc : l ≠ c := fun z => by subst z; rw [e1'] at e4; cases e4
    exact k _ d B5 (ct_new (dx := dx) hx TT T.ne_Text_Counter T.ne_Part_Counter B5 upd_same e6 (by rw [upd_ne nlc, upd_ne nld]; exact e4) (fun z => z (by
      cases e : H l with
      | none => rfl
      | some o =>
        have : l ≠ c := nlc
        rw [S3 _ _ (S2 _ _ (B1 _ _ this e))] at hl; cases hl))) hdH
end
section
variable {P : Program} {w : World} {K : PySem.W.Frag} {mg : Str → Option Value} {base : Heap} {CText CPart CCounter CEditor CKeyReader CTextError CInvalidStep CTooLong CInvalidPlace CInvalidLetter CARGUMENTS c_law p_law : Addr}
/-- before, from counts_before -/
theorem before_of (T : Txt K mg CText CPart CCounter CEditor CKeyReader CTextError CInvalidStep CTooLong CInvalidPlace CInvalidLetter CARGUMENTS c_law p_law w) (n : Nat) (G : MOk P w K mg base CX0 (2 * n + 1) CCounter "counts_before" (sp_Counter_counts_before K CText CPart CCounter n)) : MOk P w K mg base CX0 (2 * n + 2) CCounter "before" (sp_Counter_before K CText CPart CCounter n) := by
  have ok_Counter_counts_before := fun (_ : Txt K mg CText CPart CCounter CEditor CKeyReader CTextError CInvalidStep CTooLong CInvalidPlace CInvalidLetter CARGUMENTS c_law p_law w) => G
  refine T.d_Counter_before.ok sc_Counter_before (fun vs H Q E h => ?len) (fun f cdv A outer s H vs Q E hr h => ?_)
  case len => obtain ⟨c, a, d, ss, qs, av, x, rfl, _⟩ := h; rfl
  · obtain ⟨c, a, d, ss, qs, av, x, rfl, ct, hav, hx, hn, hr', k⟩ := h
    refine ⟨_, (pss_cons (ps_if (pt_cmp (pc_dnotin (hu_of hr) (pv 1) (pe_fldK (K := K) rfl (pv 0) (by rfl)))) (pss_one (ps_dput (hu_of hr) (pe_fldK (K := K) rfl (pv 0) (by rfl)) (pv 1) (pe_m (pv 0) T.cCounter (ok_Counter_counts_before T) (hr.mono (by omega)) pass0 (pa_cons (pv 1) pa_nil)) rfl))
    pss_nil)
    (pss_one (ps_ret (pe_dget (hu_of hr) (pe_fldK (K := K) rfl (pv 0) (by rfl)) (pv 1) (fun _ _ => rfl))))), ?_⟩
    refine rd_startE (show start N_Counter_before [.ref c, .int (x : Nat)] = [some (.ref c), some (.int (x : Nat))] from rfl) ?_
    obtain ⟨dx, hc⟩ := ct.ins
    obtain ⟨kvs, hd, nd, ⟨v0, h0⟩, hall⟩ := ct.kn.ex
    walk_at "rd"
    refine rd_fld_at hc T.cCounter T.na_Counter_known counterF_known ?_
    refine ⟨d, _, rfl, DGet.k (k := Sum.inl (x : Int)) hd, ?_⟩
    walk_at "rd"
    cases e : valV kvs (Sum.inl (x : Int) : Key) with
    | some v =>
      refine rd_cF rfl ?_
      walk_at "rd"
      refine rd_fld_at hc T.cCounter T.na_Counter_known counterF_known ?_
      walk_at "rd"
      refine ⟨d, v, rfl, e ▸ DGet.k (k := Sum.inl (x : Int)) hd, ?_⟩
      obtain ⟨l, rfl, hl⟩ := ct.kn.get hd e
      exact k _ l But.refl ct hl
    | none =>
      refine rd_cT rfl ?_
      walk_at "rd"
      refine ⟨⟨_, _, hc, counterF_no (by decide +kernel)⟩, ?_⟩
      walk_at "rd"
      have x1 : 1 ≤ x := by
        rcases Nat.eq_zero_or_pos x with z | z
        · subst z
          rw [show (Sum.inl ((0 : Nat) : Int) : Key) = Sum.inl 0 from rfl, h0] at e; cases e
        · exact z
      refine ⟨c, a, d, ss, qs, av, x, rfl, ct, hav, x1, hx, hn, hr', fun H1 l B1 ct1 hl hl0 => ?_⟩
      obtain ⟨dx1, hc1⟩ := ct1.ins
      obtain ⟨kvs1, hd1, _⟩ := ct1.kn.ex
      walk_at "rd"
      refine rd_fld_at hc1 T.cCounter T.na_Counter_known counterF_known ?_
      walk_at "rd"
      refine ⟨d, _, rfl, DPut.k (k := Sum.inl (x : Int)) hd1 (ct1.kn.small hd1 ct1.tx.few ct1.few), ?_⟩
      have ct2 := ct1.put2 hd1 hr'.mem hl (fun z => hav l z hl0)
      have B2 : But d H (upd H1 d (.dK (putK kvs1 (Sum.inl (x : Int)) (.ref l)))) := But.at B1
      have hl2 := but_lst (But.at But.refl) hd1 hl (H' := upd H1 d (.dK (putK kvs1 (Sum.inl (x : Int)) (.ref l))))
      obtain ⟨dx2, hc2⟩ := ct2.ins
      walk_at "rd"
      refine rd_fld_at hc2 T.cCounter T.na_Counter_known counterF_known ?_
      walk_at "rd"
      refine ⟨d, .ref l, rfl, ?_, k _ l B2 ct2 hl2⟩
      have := DGet.k (k := (Sum.inl (x : Int) : Key)) (upd_same (H := H1) (a := d) (o := HO.dK (putK kvs1 (Sum.inl (x : Int)) (.ref l))))
      rw [valV_put, if_pos rfl] at this
      exact this
end
section
variable {P : Program} {w : World} {K : PySem.W.Frag} {mg : Str → Option Value} {base : Heap} {CText CPart CCounter CEditor CKeyReader CTextError CInvalidStep CTooLong CInvalidPlace CInvalidLetter CARGUMENTS c_law p_law : Addr}
/-- counts_before, from before of less -/
theorem counts_of (T : Txt K mg CText CPart CCounter CEditor CKeyReader CTextError CInvalidStep CTooLong CInvalidPlace CInvalidLetter CARGUMENTS c_law p_law w) (n : Nat) (G : MOk P w K mg base CX0 (2 * n + 2) CCounter "before" (sp_Counter_before K CText CPart CCounter n)) : MOk P w K mg base CX0 (2 * n + 3) CCounter "counts_before" (sp_Counter_counts_before K CText CPart CCounter (n + 1)) := by
  have ok_Counter_before := fun (_ : Txt K mg CText CPart CCounter CEditor CKeyReader CTextError CInvalidStep CTooLong CInvalidPlace CInvalidLetter CARGUMENTS c_law p_law w) => G
  refine T.d_Counter_counts_before.ok sc_Counter_counts_before (fun vs H Q E h => ?len) (fun f cdv A outer s H vs Q E hr h => ?_)
  case len => obtain ⟨c, a, d, ss, qs, av, x, rfl, _⟩ := h; rfl
  · obtain ⟨c, a, d, ss, qs, av, x, rfl, ct, hav, x1, hx, hn, hr', k⟩ := h
    refine ⟨_, (pss_cons (ps_set (i := 2) sc_Counter_counts_before.nd rfl (Or.inl rfl) (pe_ix (ixK (K := K) rfl) (pe_lc (own := [("one", 3)]) rfl sc_Counter_counts_before.nd (pi_listK (K := K) rfl (pe_fldK (K := K) rfl (pe_fldK (K := K) rfl (pv 0) (by rfl)) (by rfl))) (blkOk_by (own := [("one", 3)]) (N := N_Counter_counts_before) (sc := (defScope s_Counter_counts_before)) (by first | decide +kernel | rfl)) (fun _ _ _ _ _ => (pg_name (i := 3) sc_Counter_counts_before.nd rfl (Or.inl rfl))) (fun _ _ _ _ _ => (pts_one (pt_cmpR op_lt (pe_fldK (K := K) rfl (pv 3) (by rfl)) (pv 1) (nomark _)))) (fun _ _ _ _ _ => (pv 3))) (pe_un un_neg pe_int) (fun _ _ => rfl)))
    (pss_cons (ps_par (i := 4) (j := 5) rfl sc_Counter_counts_before.nd rfl rfl (by decide) rfl rfl (pa_cons (pe_callTy (listK (K := K) rfl) rfl T.n_list (by decide +kernel) (pa_cons (pe_m (pv 0) T.cCounter (ok_Counter_before T) (hr.mono (by omega)) pass0 (pa_cons (pe_fldK (K := K) rfl (pv 2) (by rfl)) pa_nil)) pa_nil)) (pa_cons (pe_op op_sub (pv 1) (pe_fldK (K := K) rfl (pv 2) (by rfl))) pa_nil)) rfl)
    (pss_cons (ps_if (pt_val (pe_fldK (K := K) rfl (pv 2) (by rfl))) (pss_cons (ps_for PassesOwn.never rfl (pi_range2 rfl T.n_range (pa_cons (pe_fldK (K := K) rfl (pv 2) (by rfl)) (pa_cons (pe_op (addK (K := K) rfl) (pe_fldK (K := K) rfl (pv 2) (by rfl)) (pv 5)) pa_nil))) (pg_name (i := 6) sc_Counter_counts_before.nd rfl (Or.inl rfl)) (pss_one (ps_augS (pv 4) (pv 6) (pget_list (K := K) rfl) pe_int ip_add set_list)))
    (pss_one (ps_ret (pv 4))))
    pss_nil)
    (pss_cons (ps_set (i := 7) sc_Counter_counts_before.nd rfl (Or.inl rfl) (pe_op (addK (K := K) rfl) (pe_op op_sub (pe_fldK (K := K) rfl (pv 2) (by rfl)) (pe_fldK (K := K) rfl (pv 2) (by rfl))) pe_int))
    (pss_cons (ps_asg (pe_callB cDivm rfl T.n_divmod (by decide +kernel) (pa_cons (pv 5) (pa_cons (pv 7) pa_nil))) (pg_tupK (K := K) (n := 2) rfl rfl (pgs_cons (pg_name (i := 8) sc_Counter_counts_before.nd rfl (Or.inl rfl)) (pgs_cons (pg_name (i := 9) sc_Counter_counts_before.nd rfl (Or.inl rfl)) pgs_nil))))
    (pss_cons (ps_par3 (i := 10) (j := 11) (l := 12) rfl sc_Counter_counts_before.nd rfl rfl rfl (by decide) (by decide) (by decide) rfl rfl rfl (pa_cons (pe_m (pv 0) T.cCounter (ok_Counter_before T) (hr.mono (by omega)) pass0 (pa_cons (pe_fldK (K := K) rfl (pv 2) (by rfl)) pa_nil)) (pa_cons (pe_m (pv 0) T.cCounter (ok_Counter_before T) (hr.mono (by omega)) pass0 (pa_cons (pe_op (addK (K := K) rfl) (pe_fldK (K := K) rfl (pv 2) (by rfl)) pe_int) pa_nil)) (pa_cons (pe_m (pv 0) T.cCounter (ok_Counter_before T) (hr.mono (by omega)) pass0 (pa_cons (pe_op (addK (K := K) rfl) (pe_fldK (K := K) rfl (pv 2) (by rfl)) (pv 9)) pa_nil)) pa_nil))) rfl)
    (pss_cons (ps_set (i := 13) sc_Counter_counts_before.nd rfl (Or.inl rfl) (pe_lst pa_nil))
    (pss_cons (ps_for PassesOwn.never rfl (pi_enumK (K := K) rfl rfl T.n_enumerate (pa_cons (pv 4) pa_nil)) (pg_tupK (K := K) (n := 2) rfl rfl (pgs_cons (pg_name (i := 6) sc_Counter_counts_before.nd rfl (Or.inl rfl)) (pgs_cons (pg_name (i := 14) sc_Counter_counts_before.nd rfl (Or.inl rfl)) pgs_nil))) (pss_one (ps_expr (pe_bmK (K := K) rfl PySem.F.plainAttrs_list PySem.F.slot_list_append PySem.F.type_list_append mt_append (pv 13) (pa_cons (pe_op op_sub (pe_op (addK (K := K) rfl) (pe_op (addK (K := K) rfl) (pv 14) (pe_op op_mulW (pv 8) (pe_op op_sub (pe_ix (ixK (K := K) rfl) (pv 11) (pv 6) (fun _ _ => rfl)) (pe_ix (ixK (K := K) rfl) (pv 10) (pv 6) (fun _ _ => rfl))))) (pe_ix (ixK (K := K) rfl) (pv 12) (pv 6) (fun _ _ => rfl))) (pe_ix (ixK (K := K) rfl) (pv 10) (pv 6) (fun _ _ => rfl))) pa_nil)))))
    (pss_one (ps_ret (pv 13))))))))))), ?_⟩
    refine rd_startE (show start N_Counter_counts_before [.ref c, .int (x : Nat)] = [some (.ref c), some (.int (x : Nat)), none, none, none, none, none, none, none, none, none, none, none, none, none] from rfl) ?_
    obtain ⟨dx, hc⟩ := ct.ins
    obtain ⟨t, TT, rfl⟩ := ct.tx
    obtain ⟨j, hjn, hj, hj1, hj2⟩ := part_of x1 hx
    have few := TT.few
    walk_at "rd"
    refine rd_fld_at hc T.cCounter T.na_Counter_text counterF_text ?_
    walk_at "rd"
    refine rd_fld_at TT.ins T.cText T.na_Text_parts textF_parts ?_
    walk_at "rd"
    have np : t.ps.length = t.ss.length := TT.prt.1
    refine ⟨⟨_, SqL.of TT.pls⟩, fun D hD => lc_filt (f := fun i => (t.ps[i]?).getD .non) (p := fun i => decide (sz (t.ss.take i) < x)) (plain_list (SqL.of TT.pls)) hD (by rw [sizeLine_eq]; omega) (fun _ => rfl) (fun i H1 R1 hi S q => ?_) (fun i H1 Q1 hi hp S q => ?_) fun H1 S1 eD => ?_⟩
    · obtain ⟨v, hv, hp⟩ := TT.prt.2 i _ (List.getElem?_eq_getElem (by omega))
      obtain ⟨p, dp, ln, ty, f', l', rfl, hP'⟩ := hp.start
      rw [hv]
      walk_at "rd"
      refine rd_fld_at (S _ _ hP') T.cPart T.na_Part_start partF_start ?_
      walk_at "rd"
      rw [show decide (((sz (t.ss.take i) : Nat) : Int) < (x : Nat)) = decide (sz (t.ss.take i) < x) from decide_eq_decide.mpr (by omega)]
      exact q _ (Same.refl _)
    · walk_at "rd"
      exact q _ (Same.refl _)
    rw [np, filter_pre hj (fun i hi => by
      rw [decide_eq_true_iff]
      constructor
      · intro z
        rcases Nat.lt_or_ge j i with w | w
        · have := sz_take_mono (ss := t.ss) (show j + 1 ≤ i from w); omega
        · exact w
      · intro z
        have := sz_take_mono (ss := t.ss) z; omega), List.range_succ, List.map_append] at eD
    have ct1 := ct.mono S1
    have hav1 : ∀ b, av b → H1 b ≠ none := fun b z => same_some S1 (hav b z)
    obtain ⟨v, hv, hpart⟩ := (TT.prt.mono S1).2 j _ (List.getElem?_eq_getElem hj)
    have eD' : H1 D = some (.lst ((List.range j).map (fun i => (t.ps[i]?).getD .non) ++ [v])) := by
      rw [eD]; simp only [List.map_cons, List.map_nil, hv]; rfl
    have hs : t.ss[j]? = some t.ss[j] := List.getElem?_eq_getElem hj
    have ok := TT.ok
    have wf := ok_at ok hs
    have hsz := sz_take hs
    have hxs := sz_le ok
    have hjs := sz_take_le (ss := t.ss) (j + 1)
    have hty := tyL_take_le (ss := t.ss) (j + 1)
    have hty6 := tyL_600 (CT := CText) (CP := CPart) ⟨t, TT, rfl⟩
    have htk := tyL_take hs
    have hjx : sz (t.ss.take j) ≤ sz (t.ss.take n) := sz_take_mono (by omega)
    obtain ⟨dx1, hc1⟩ := ct1.ins
    obtain ⟨kv1, hd1, _⟩ := ct1.kn.ex
    walk_at "rd"
    refine rd_ixI ?_ (SqL.of eD') (atI_last _ _)
    walk_at "rd"
    cases hstp : t.ss[j] with
    | wr w =>
      rw [hstp] at hpart hs hsz wf htk
      obtain ⟨pp, dp, rfl, hP⟩ := hpart
      refine ⟨⟨_, _, hc1, counterF_no (by decide +kernel)⟩, ?_⟩
      walk_at "rd"
      refine rd_fld_at hP T.cPart T.na_Part_start partF_start ?_
      walk_at "rd"
      refine ⟨c, a, d, t.ss, qs, av, sz (t.ss.take j), rfl, ct1, hav1, hjx, by omega, reach_c hj (by unfold cs1; rw [hs]; simp) (by omega), fun H2 l2 B2 ct2 hl2 => ?_⟩
      have hP2 := but_any B2 hd1 hP (fun k z => by cases z)
      walk_at "rd"
      refine rd_list_lst (SqL.of hl2) fun lc hlc => ?_
      have S3 : Same H2 (upd H2 lc (.lst (natV (cnt t.ss (sz (t.ss.take j)))))) := Same.new (Same.refl _) hlc
      have e3 : upd H2 lc (.lst (natV (cnt t.ss (sz (t.ss.take j))))) lc = some (.lst (natV (cnt t.ss (sz (t.ss.take j))))) := upd_same
      revert S3 e3
      generalize upd H2 lc (.lst (natV (cnt t.ss (sz (t.ss.take j))))) = H3
      intro S3 e3
      have hP3 := S3 _ _ hP2
      walk_at "rd"
      refine rd_fld_at hP3 T.cPart T.na_Part_start partF_start ?_
      walk_at "rd"
      refine rd_fld_at hP3 T.cPart T.na_Part_is_typed partF_typed ?_
      walk_at "rd"
      refine rd_fld_at hP3 T.cPart T.na_Part_first partF_first ?_
      walk_at "rd"
      refine rd_fld_at hP3 T.cPart T.na_Part_first partF_first ?_
      walk_at "rd"
      simp only [len1] at hsz wf
      simp only [ty1] at htk
      have hlen := len_tl w
      have hty2 : (tyL (t.ss.take j)).length + w.length ≤ (tyL t.ss).length := by rw [htk, List.length_append] at hty; omega
      refine ⟨_, _, rfl, by omega, ?_⟩
      rw [show (((tyL (t.ss.take j)).length : Nat) : Int) + ((x : Nat) - (sz (t.ss.take j) : Nat)) - ((tyL (t.ss.take j)).length : Nat) = ((x - sz (t.ss.take j) : Nat) : Int) by omega, Int.toNat_natCast]
      refine for_range (fun i σ H' => ∃ v6, σ = [some (.ref c), some (.int (x : Nat)), some (.ref pp), none, some (.ref lc), some (.int ((x : Nat) - (sz (t.ss.take j) : Nat))), v6, none, none, none, none, none, none, none, none] ∧ Same H2 H' ∧ H' lc = some (.lst (natV (cntW t.ss (sz (t.ss.take j)) (tyL (t.ss.take j)).length i))))
        ⟨_, rfl, S3, by rw [cntW_zero]; exact e3⟩ ?_ ?_
      · rintro i σ H' hi ⟨v6, rfl, S, e⟩
        rw [show (((tyL (t.ss.take j)).length : Nat) : Int) + (i : Nat) = (((tyL (t.ss.take j)).length + i : Nat) : Int) by omega]
        walk_at "rd"
        refine rd_getL (SqL.of e) (cntW_get (by omega)) ?_
        walk_at "rd"
        refine rd_setL (j := (tyL (t.ss.take j)).length + i) e (by unfold natV cntW; simp only [List.length_map, List.length_range]; exact ixN_natx (by omega)) ?_
        rw [cntW_set]
        exact ⟨_, rfl, Same.mut S hlc, upd_same⟩
      · rintro σ H' ⟨v6, rfl, S, e⟩
        rw [cntW_end ok hs (by omega) hj2] at e
        walk_at "rd"
        refine k H' lc (fun b o hb q => ?_) (ct2.mono S) e (none_back S1 (none_but B2 ct2.dk.choose_spec hlc))
        exact S _ _ (B2 _ _ hb (S1 _ _ q))
    | pa f l tm =>
      rw [hstp] at hpart hs hsz wf htk
      obtain ⟨pp, dp, rfl, hP⟩ := hpart
      obtain ⟨⟨o1, o2, o3, o4⟩, o5⟩ := wf
      simp only [len1] at hsz o5
      have hm : (x - sz (t.ss.take j)) % (l - f + 1) < l - f + 1 := Nat.mod_lt _ (by omega)
      have hq : (x - sz (t.ss.take j)) / (l - f + 1) ≤ x := Nat.le_trans (Nat.div_le_self _ _) (by omega)
      refine ⟨⟨_, _, hc1, counterF_no (by decide +kernel)⟩, ?_⟩
      walk_at "rd"
      refine rd_fld_at hP T.cPart T.na_Part_start partF_start ?_
      walk_at "rd"
      refine ⟨c, a, d, t.ss, qs, av, sz (t.ss.take j), rfl, ct1, hav1, hjx, by omega, reach_c hj (by unfold cs1; rw [hs]; simp) (by omega), fun H2 l2 B2 ct2 hl2 => ?_⟩
      have hP2 := but_any B2 hd1 hP (fun k z => by cases z)
      walk_at "rd"
      refine rd_list_lst (SqL.of hl2) fun lc hlc => ?_
      have S3 : Same H2 (upd H2 lc (.lst (natV (cnt t.ss (sz (t.ss.take j)))))) := Same.new (Same.refl _) hlc
      have e3 : upd H2 lc (.lst (natV (cnt t.ss (sz (t.ss.take j))))) lc = some (.lst (natV (cnt t.ss (sz (t.ss.take j))))) := upd_same
      revert S3 e3
      generalize upd H2 lc (.lst (natV (cnt t.ss (sz (t.ss.take j))))) = H3
      intro S3 e3
      have hP3 := S3 _ _ hP2
      have ct3 := ct2.mono S3
      obtain ⟨dx3, hc3⟩ := ct3.ins
      obtain ⟨kv3, hd3, _⟩ := ct3.kn.ex
      walk_at "rd"
      refine rd_fld_at hP3 T.cPart T.na_Part_start partF_start ?_
      walk_at "rd"
      refine rd_fld_at hP3 T.cPart T.na_Part_is_typed partF_typed ?_
      walk_at "rd"
      refine rd_fld_at hP3 T.cPart T.na_Part_last partF_last ?_
      walk_at "rd"
      refine rd_fld_at hP3 T.cPart T.na_Part_first partF_first ?_
      walk_at "rd"
      rw [show ((l : Nat) : Int) - (f : Nat) + 1 = ((l - f + 1 : Nat) : Int) by omega, show ((x : Nat) : Int) - (sz (t.ss.take j) : Nat) = ((x - sz (t.ss.take j) : Nat) : Int) by omega]
      refine rd_divm (divp_small (by omega) (by omega) (by omega)) fun pd H4 S4 e4 => ?_
      rw [← Int.natCast_ediv, ← Int.natCast_emod] at e4
      have hP4 := S4 _ _ hP3
      have ct4 := ct3.mono S4
      obtain ⟨dx4, hc4⟩ := ct4.ins
      obtain ⟨kv4, hd4, _⟩ := ct4.kn.ex
      have ec4 := S4 _ _ e3
      walk_at "rd"
      refine ⟨⟨_, _, hc4, counterF_no (by decide +kernel)⟩, ?_⟩
      walk_at "rd"
      refine rd_fld_at hP4 T.cPart T.na_Part_first partF_first ?_
      walk_at "rd"
      refine ⟨c, a, d, t.ss, qs, av, f, rfl, ct4, (fun b z => same_some S4 (same_some S3 (but_some B2 ct2.dk.choose_spec (hav1 b z)))), by omega, by omega, reach_c hj (by unfold cs1; rw [hs]; simp) (by omega), fun H5 la B5 ct5 ha5 => ?_⟩
      have hP5 := but_any B5 hd4 hP4 (fun k z => by cases z)
      have ec5 := but_lst B5 hd4 ec4
      obtain ⟨dx5, hc5⟩ := ct5.ins
      obtain ⟨kv5, hd5, _⟩ := ct5.kn.ex
      walk_at "rd"
      refine ⟨⟨_, _, hc5, counterF_no (by decide +kernel)⟩, ?_⟩
      walk_at "rd"
      refine rd_fld_at hP5 T.cPart T.na_Part_last partF_last ?_
      walk_at "rd"
      rw [show ((l : Nat) : Int) + 1 = ((l + 1 : Nat) : Int) by omega]
      refine ⟨c, a, d, t.ss, qs, av, l + 1, rfl, ct5, (fun b z => but_some B5 ct5.dk.choose_spec (same_some S4 (same_some S3 (but_some B2 ct2.dk.choose_spec (hav1 b z))))), by omega, by omega, reach_c hj (by unfold cs1; rw [hs]; simp) (by omega), fun H6 lb B6 ct6 hb6 => ?_⟩
      have hP6 := but_any B6 hd5 hP5 (fun k z => by cases z)
      have ec6 := but_lst B6 hd5 ec5
      have ha6 := but_lst B6 hd5 ha5
      obtain ⟨dx6, hc6⟩ := ct6.ins
      obtain ⟨kv6, hd6, _⟩ := ct6.kn.ex
      walk_at "rd"
      refine ⟨⟨_, _, hc6, counterF_no (by decide +kernel)⟩, ?_⟩
      walk_at "rd"
      refine rd_fld_at hP6 T.cPart T.na_Part_first partF_first ?_
      walk_at "rd"
      rw [show ((f : Nat) : Int) + (((x - sz (t.ss.take j)) % (l - f + 1) : Nat) : Int) = ((f + (x - sz (t.ss.take j)) % (l - f + 1) : Nat) : Int) by omega]
      refine ⟨c, a, d, t.ss, qs, av, f + (x - sz (t.ss.take j)) % (l - f + 1), rfl, ct6, (fun b z => but_some B6 ct6.dk.choose_spec (but_some B5 ct5.dk.choose_spec (same_some S4 (same_some S3 (but_some B2 ct2.dk.choose_spec (hav1 b z)))))), by omega, by omega, reach_phi hs hj1 hj2 hr', fun H7 ld B7 ct7 hd7 => ?_⟩
      have ec7 := but_lst B7 hd6 ec6
      have ha7 := but_lst B7 hd6 ha6
      have hb7 := but_lst B7 hd6 hb6
      walk_at "rd"
      refine ⟨_, _, _, rfl, ?_⟩
      walk_at "rd"
      intro lf H8 S8 e8 hlf
      walk_at "rd"
      have c0 := cnt_len t.ss (sz (t.ss.take j))
      have c1 := cnt_len t.ss (l + 1)
      have c2 := cnt_len t.ss f
      have c3 := cnt_len t.ss (f + (x - sz (t.ss.take j)) % (l - f + 1))
      have cx := cnt_len t.ss x
      refine ⟨lc, _, rfl, SqL.of (S8 _ _ ec7), for_pair (J := Ite K lc) (n := (cnt t.ss (sz (t.ss.take j))).length) (it := fun i => [.int (i : Nat), .int ((cnt t.ss (sz (t.ss.take j)))[i]?.getD 0 : Nat)])
        (fun i σ H' => ∃ v6 v14, σ = [some (.ref c), some (.int (x : Nat)), some (.ref pp), none, some (.ref lc), some (.int ((x - sz (t.ss.take j) : Nat) : Int)), v6, some (.int ((l - f + 1 : Nat) : Int)), some (.int (((x - sz (t.ss.take j)) / (l - f + 1) : Nat) : Int)), some (.int (((x - sz (t.ss.take j)) % (l - f + 1) : Nat) : Int)), some (.ref la), some (.ref lb), some (.ref ld), some (.ref lf), v14] ∧ Same H7 H' ∧ H' lf = some (.lst (natV ((cnt t.ss x).take i))))
        ⟨_, _, rfl, S8, e8⟩ (fun i σ H' _ ⟨_, _, _, S, _⟩ => pairy_enumN (S _ _ ec7)) ?_ ?_⟩
      · rintro i Tu σ H' hi ⟨v6, v14, rfl, S, e⟩ hT
        refine rd_gtup (SqT.of upd_same) rfl ?_
        have ST : Same H' (upd H' Tu (.tup [.int (i : Nat), .int ((cnt t.ss (sz (t.ss.take j)))[i]?.getD 0 : Nat)])) := Same.new (Same.refl _) hT
        revert ST
        generalize upd H' Tu (.tup [.int (i : Nat), .int ((cnt t.ss (sz (t.ss.take j)))[i]?.getD 0 : Nat)]) = Hi
        intro ST
        have S7 := S.trans ST
        have ea := S7 _ _ ha7
        have eb := S7 _ _ hb7
        have ed := S7 _ _ hd7
        have ef := ST _ _ e
        walk_at "rd"
        refine rd_tyL (SqL.of ef) _ ?_
        walk_at "rd"
        rw [Int.toNat_natCast, cnt_nat (by omega), cnt_nat (by omega), cnt_nat (by omega)]
        have b1 := cn_le t.ss (l + 1) i
        have b2 := cn_le t.ss f i
        refine rd_I (wmul (by rw [Int.natAbs_natCast]; omega) (by omega)) ?_
        walk_at "rd"
        rw [Int.toNat_natCast, cnt_nat (by omega)]
        walk_at "rd"
        rw [cnt_nat (by omega), ← cn_pa ok hs (by omega) hj2 i]
        refine rd_append ef (by rw [natV_len, List.length_take, sizeLine_eq]; omega) ?_
        refine ⟨_, _, rfl, Same.mut S7 hlf, ?_⟩
        rw [upd_same, take_snoc (cnt_get (by omega)), natV_snoc]
      · rintro σ H' ⟨v6, v14, rfl, S, e⟩
        rw [List.take_of_length_le (by omega)] at e
        walk_at "rd"
        refine k H' lf (fun b o hb q => ?_) (ct7.mono S) e (none_back S1 (none_but B2 ct2.dk.choose_spec (none_back S3 (none_back S4 (none_but B5 ct5.dk.choose_spec (none_but B6 ct6.dk.choose_spec (none_but B7 ct7.dk.choose_spec hlf)))))))
        exact S _ _ (B7 _ _ hb (B6 _ _ hb (B5 _ _ hb (S4 _ _ (S3 _ _ (B2 _ _ hb (S1 _ _ q)))))))
end
section
variable {P : Program} {w : World} {K : PySem.W.Frag} {mg : Str → Option Value} {base : Heap} {CText CPart CCounter CEditor CKeyReader CTextError CInvalidStep CTooLong CInvalidPlace CInvalidLetter CARGUMENTS c_law p_law : Addr}
theorem counts_zero (T : Txt K mg CText CPart CCounter CEditor CKeyReader CTextError CInvalidStep CTooLong CInvalidPlace CInvalidLetter CARGUMENTS c_law p_law w) : MOk P w K mg base CX0 1 CCounter "counts_before" (sp_Counter_counts_before K CText CPart CCounter 0) := by
  refine T.d_Counter_counts_before.ok sc_Counter_counts_before (fun vs H Q E h => ?_) (fun f cdv A outer s H vs Q E hr h => ?_)
  · obtain ⟨c, a, d, ss, qs, av, x, rfl, _⟩ := h; rfl
  · obtain ⟨c, a, d, ss, qs, av, x, rfl, ct, _, x1, hx, _⟩ := h
    simp only [List.take_zero, sz] at hx
    omega
theorem before_n (T : Txt K mg CText CPart CCounter CEditor CKeyReader CTextError CInvalidStep CTooLong CInvalidPlace CInvalidLetter CARGUMENTS c_law p_law w) : ∀ n, MOk P w K mg base CX0 (2 * n + 2) CCounter "before" (sp_Counter_before K CText CPart CCounter n)
  | 0 => before_of T 0 (counts_zero T)
  | n + 1 => before_of T (n + 1) (counts_of T n (before_n T n))
theorem ok_Counter_before (T : Txt K mg CText CPart CCounter CEditor CKeyReader CTextError CInvalidStep CTooLong CInvalidPlace CInvalidLetter CARGUMENTS c_law p_law w) : MOk P w K mg base CX0 62 CCounter "before" (sp_Counter_before K CText CPart CCounter 30) := before_n T 30
end
local macro_rules | `(tactic| walk_at "ct") => `(tactic| first | assumption | ((with_reducible refine' CtAt.mono ?tx1 ?tx2); (case tx1 => assumption); (case tx2 => walk_at "sm")))
local macro_rules | `(tactic| walk_at "rd1") => `(tactic| first
  | ((with_reducible refine' rd_insCt ?k1 ?k2 ?_); (case k1 => walk_at "ct"); (case k2 => decide +kernel))
  | ((with_reducible refine' rd_isIntT ?k1 ?_); (case k1 => omega))
  | ((with_reducible refine' rd_mkCounter ?k1 ?_); (case k1 => walk_at "tx"))
  | ((with_reducible refine' rd_mCheckKey ?k1 ?k2 ?_); (case k1 => walk_at "tx"); (case k2 => omega))
  | ((with_reducible refine' rd_checkRange ?k1 ?k2 ?k3 ?k4 ?_); (case k1 => walk_at "tx"); (case k2 => omega); (case k3 => omega); (case k4 => omega)))
section
variable {P : Program} {w : World} {K : PySem.W.Frag} {mg : Str → Option Value} {base : Heap} {CText CPart CCounter CEditor CKeyReader CTextError CInvalidStep CTooLong CInvalidPlace CInvalidLetter CARGUMENTS c_law p_law : Addr}
theorem ok_check_range (T : Txt K mg CText CPart CCounter CEditor CKeyReader CTextError CInvalidStep CTooLong CInvalidPlace CInvalidLetter CARGUMENTS c_law p_law w) : GOk P w K mg base CX0 3 "check_range" (sp_check_range K CText CPart) := by
  refine T.d_check_range.ok sc_check_range (fun vs H Q E h => ?len) (fun f cdv A outer s H vs Q E hr h => ?_)
  case len => obtain ⟨a, ss, f, e, rfl, _⟩ := h; rfl
  · obtain ⟨a, ss, i, e, rfl, TT, h1, h2, k⟩ := h
    refine ⟨_, (pss_one (ps_if (PW.pt (pw_or (pt_not (pt_val (pe_g (ok_is_integer (K := K) T) (hr.mono (by decide)) pass0 (pa_cons (pv 1) (pa_cons pe_int (pa_cons (pe_p (pv 0) T.cText (ok_Text_size (K := K) T) (hr.mono (by decide)) pass0) pa_nil)))))) (pw_or1 (pt_not (pt_val (pe_g (ok_is_integer (K := K) T) (hr.mono (by decide)) pass0 (pa_cons (pv 2) (pa_cons (pe_op op_sub (pv 1) pe_int) (pa_cons (pe_op op_sub (pe_p (pv 0) T.cText (ok_Text_size (K := K) T) (hr.mono (by decide)) pass0) pe_int) pa_nil))))))))) (pss_one ps_never)
    pss_nil)), ?_⟩
    refine rd_startE (show start N_check_range [.ref a, .int (i : Nat), .int ((e : Int) - 1)] = [some (.ref a), some (.int (i : Nat)), some (.int ((e : Int) - 1))] from rfl) ?_
    walk_at "rd"
    exact k
end
section
variable {P : Program} {w : World} {K : PySem.W.Frag} {mg : Str → Option Value} {base : Heap} {CText CPart CCounter CEditor CKeyReader CTextError CInvalidStep CTooLong CInvalidPlace CInvalidLetter CARGUMENTS c_law p_law : Addr}
theorem ok_key_counts (T : Txt K mg CText CPart CCounter CEditor CKeyReader CTextError CInvalidStep CTooLong CInvalidPlace CInvalidLetter CARGUMENTS c_law p_law w) : GOk P w K mg base CX0 63 "key_counts" (sp_key_counts K CText CPart) := by
  refine T.d_key_counts.ok sc_key_counts (fun vs H Q E h => ?len) (fun f cdv A outer s H vs Q E hr h => ?_)
  case len => obtain ⟨a, ss, f, e, rfl, _⟩ := h; rfl
  · obtain ⟨a, ss, i, e, rfl, TT, h1, h2, k⟩ := h
    refine ⟨_, (pss_cons (ps_expr (pe_g (ok_check_range (K := K) T) (hr.mono (by decide)) pass0 (pa_cons (pv 0) (pa_cons (pv 1) (pa_cons (pv 2) pa_nil)))))
    (pss_cons (ps_set (i := 3) sc_key_counts.nd rfl (Or.inl rfl) (pe_k (ok_Counter_init (K := K) T) (hr.mono (by decide)) T.g_Counter pass0 (pa_cons (pv 0) pa_nil)))
    (pss_one (ps_ret (pe_lc (own := [("low", 4), ("high", 5)]) rfl sc_key_counts.nd (pi_zipK (K := K) rfl rfl T.n_zip (pa_cons (pe_m (pv 3) T.cCounter (ok_Counter_before (K := K) T) (hr.mono (by decide)) pass0 (pa_cons (pv 1) pa_nil)) (pa_cons (pe_m (pv 3) T.cCounter (ok_Counter_before (K := K) T) (hr.mono (by decide)) pass0 (pa_cons (pe_op (addK (K := K) rfl) (pv 2) pe_int) pa_nil)) pa_nil))) (blkOk_by (own := [("low", 4), ("high", 5)]) (N := N_key_counts) (sc := (defScope s_key_counts)) (by first | decide +kernel | rfl)) (fun _ _ _ _ _ => (pg_tupK (K := K) (n := 2) rfl rfl (pgs_cons (pg_name (i := 4) sc_key_counts.nd rfl (Or.inl rfl)) (pgs_cons (pg_name (i := 5) sc_key_counts.nd rfl (Or.inl rfl)) pgs_nil)))) (fun _ _ _ _ _ => pts_nil) (fun _ _ _ _ _ => (pe_op op_sub (pv 5) (pv 4)))))))), ?_⟩
    refine rd_startE (show start N_key_counts [.ref a, .int (i : Nat), .int ((e : Int) - 1)] = [some (.ref a), some (.int (i : Nat)), some (.int ((e : Int) - 1)), none, none, none] from rfl) ?_
    walk_at "rd"
    intro c d H1 S1 ct hd
    have hty := tyL_600 TT
    walk_at "rd"
    refine rd_before ct (fun b z => same_some S1 z) (by omega) (by simp) fun H2 l2 B2 ct2 e2 => ?_
    have hav2 : ∀ b, H b ≠ none → H2 b ≠ none := fun b z => but_some B2 ct2.dk.choose_spec (same_some S1 z)
    walk_at "rd"
    rw [show ((e : Int) - 1 + 1) = (e : Nat) by omega]
    refine rd_before ct2 hav2 (by omega) (by simp) fun H3 l3 B3 ct3 e3 => ?_
    have e2' := but_lst B3 ct2.dk.choose_spec e2
    walk_at "rd"
    refine ⟨l2, l3, _, _, rfl, SqL.of e2', SqL.of e3, ?_⟩
    refine fun D hD => lc_pair (x := fun j => .int ((cnt ss i)[j]?.getD 0 : Nat)) (y := fun j => .int ((cnt ss e)[j]?.getD 0 : Nat)) (pairy_zipN e2' e3) hD (by rw [cnt_len, cnt_len, sizeLine_eq]; omega) rfl (fun _ _ => rfl) (fun _ _ => rfl) (fun j => .int ((cn ss e j - cn ss i j : Nat) : Int)) (fun j H4 Q4 hj S4 q => ?_) fun H4 S4 eD => ?_
    · rw [cnt_len, cnt_len, Nat.min_self] at hj
      walk_at "rd"
      rw [cnt_nat hj, cnt_nat hj, kc_eq ss i e h1]
      exact q _ (Same.refl _)
    · rw [cnt_len, cnt_len, Nat.min_self] at eD
      refine k H4 D ((same_but (B2.trans B3) S1 hd).trans S4) (eD.trans ?_)
      unfold natV
      rw [List.map_map]
      rfl
end
section
variable {P : Program} {w : World} {K : PySem.W.Frag} {mg : Str → Option Value} {base : Heap} {CText CPart CCounter CEditor CKeyReader CTextError CInvalidStep CTooLong CInvalidPlace CInvalidLetter CARGUMENTS c_law p_law : Addr}
theorem ok_is_operation (T : Txt K mg CText CPart CCounter CEditor CKeyReader CTextError CInvalidStep CTooLong CInvalidPlace CInvalidLetter CARGUMENTS c_law p_law w) : GOk P w K mg base CX0 1 "is_operation" (sp_is_operation K) := by
  refine T.d_is_operation.ok sc_is_operation (fun vs H Q E h => ?len) (fun f cdv A outer s H vs Q E hr h => ?_)
  case len => obtain ⟨v, rfl, _⟩ := h; rfl
  · obtain ⟨v, rfl, hv⟩ := h
    refine ⟨_, (pss_cons (ps_if (PW.pt (pw_or (pt_not (pt_val (pe_callB (isiK (K := K) rfl) rfl T.n_isinstance (by decide +kernel) (pa_cons (pv 0) (pa_cons (pe_bltn (v := .ty "tuple") rfl T.n_tuple (by decide +kernel) rfl) pa_nil))))) (pw_or (pt_cmpR (oEqNil (K := K) rfl hr.units) (pv 0) (pe_tup pa_nil) (nomark _)) (pw_or1 (pt_not (pt_val (pe_callB (isiK (K := K) rfl) rfl T.n_isinstance (by decide +kernel) (pa_cons (pe_ix (ixK (K := K) rfl) (pv 0) pe_int (fun _ _ => rfl)) (pa_cons (pe_bltn (v := .ty "str") rfl T.n_str (by decide +kernel) rfl) pa_nil))))))))) (pss_one (ps_ret pe_bl))
    pss_nil)
    (pss_one (ps_ret (pe_cmpR (eqK (K := K) rfl hr.units) (pe_kget2 (pe_glob (v := .ref CARGUMENTS) rfl T.g_ARGUMENTS rfl) (pe_ix (ixK (K := K) rfl) (pv 0) pe_int (fun _ _ => rfl)) (pe_un un_neg pe_int) ⟨rfl, rfl, rfl, rfl⟩) (pe_op op_sub (pe_callB (lenK (K := K) rfl) rfl T.n_len (by decide +kernel) (pa_cons (pv 0) pa_nil)) pe_int) (nomark _))))), ?_⟩
    refine rd_startE (show start N_is_operation [v] = [some (v)] from rfl) ?_
    rcases hv with ⟨n, k⟩ | ⟨a, xs, rfl, hl, k⟩ | ⟨a, xs, rfl, hq, hs, hf, k⟩
    · cases v with
      | non => walk_at "rd"; exact k _ (Same.refl _)
      | bl c => walk_at "rd"; exact k _ (Same.refl _)
      | int c => walk_at "rd"; exact k _ (Same.refl _)
      | str c => walk_at "rd"; exact k _ (Same.refl _)
      | byt _ => exact n.elim
      | flt _ => exact n.elim
      | ref _ => exact n.elim
      | ty _ => exact n.elim
    · walk_at "rd"
      refine rd_isi_lst_tuple hl ?_
      walk_at "rd"
      exact k _ (Same.refl _)
    · walk_at "rd"
      refine rd_isi_tup_tuple hq ?_
      walk_at "rd"
      intro q1 H1 S1 e1 _
      refine rd_eqT0 (Same.tup S1 hq) (SqT.of e1) ?_
      walk_at "rd"
      rcases hf with rfl | ⟨z, r, rfl, hz⟩
      · refine rd_cT rfl ?_
        walk_at "rd"
        exact k _ S1
      · refine rd_cF rfl ?_
        walk_at "rd"
        refine rd_ixT ?_ (Same.tup S1 hq) (by show atI _ ((0 : Nat) : Int) = _; rw [atI_nat]; rfl)
        walk_at "rd"
        refine rd_kget ?_
        walk_at "rd"
        refine rd_kgd T.kd_ARGUMENTS ?_
        walk_at "rd"
        refine rd_ixT ?_ (Same.tup S1 hq) (by show atI _ ((0 : Nat) : Int) = _; rw [atI_nat]; rfl)
        walk_at "rd"
        refine rd_kgv T.kd_ARGUMENTS hz ?_
        walk_at "rd"
        refine rd_len_tup (Same.tup S1 hq) ?_
        walk_at "rd"
        rw [isOp_arg hz]
        exact k _ S1
end
section
variable {P : Program} {w : World} {K : PySem.W.Frag} {mg : Str → Option Value} {base : Heap} {CText CPart CCounter CEditor CKeyReader CTextError CInvalidStep CTooLong CInvalidPlace CInvalidLetter CARGUMENTS c_law p_law : Addr}
theorem ok_Editor_init (T : Txt K mg CText CPart CCounter CEditor CKeyReader CTextError CInvalidStep CTooLong CInvalidPlace CInvalidLetter CARGUMENTS c_law p_law w) : KOk P w K mg base CX0 6 CEditor (spStar 1 (sp_Editor_init K CText CPart CEditor)) := by
  refine T.d_Editor_init.ok sc_Editor_init (fun f cdv A outer s H vs Q E hr h => ?_)
  · obtain ⟨x, dx, m, rs, ss, rfl, hx, hm, hs, ok, few, k⟩ := h
    refine ⟨_, (pss_cons (ps_fld (pv 0) (pe_ks (pe_glob (v := .ref CText) rfl T.g_Text rfl) (ok_Text_init (K := K) T) (hr.mono (by decide)) pass0 (pv 1)) rfl)
    (pss_cons (ps_fld (pv 0) (pe_tup pa_nil) rfl)
    (pss_cons (ps_fld (pv 0) (pe_tup pa_nil) rfl)
    (pss_cons (ps_fld (pv 0) pe_bl rfl)
    (pss_cons (ps_fld (pv 0) (pe_fldK (K := K) rfl (pv 0) (by rfl)) rfl)
    (pss_cons (ps_fld (pv 0) (pe_tup pa_nil) rfl)
    (pss_one (ps_fld (pv 0) (pe_tup pa_nil) rfl)))))))), ?_⟩
    refine rd_startE (show start N_Editor_init [.ref x, .ref m] = [some (.ref x), some (.ref m)] from rfl) ?_
    walk_at "rd"
    refine rd_mkS (.inl hm) (rd_mkText hs ok few fun p H1 t np S1 T1 e1 => ?_)
    walk_at "rd"
    refine rd_edset (S1 _ _ hx) T.cEditor T.na_Editor_present (by decide) fun H2 b2 e2 => ?_
    walk_at "rd"
    intro q3 H3 S3 e3 _
    walk_at "rd"
    refine rd_edset (S3 _ _ e2) T.cEditor T.na_Editor_done fl1 fun H4 b4 e4 => ?_
    walk_at "rd"
    intro q5 H5 S5 e5 _
    walk_at "rd"
    refine rd_edset (S5 _ _ e4) T.cEditor T.na_Editor_undone fl2 fun H6 b6 e6 => ?_
    walk_at "rd"
    refine rd_edset e6 T.cEditor T.na_Editor_is_open fl3 fun H7 b7 e7 => ?_
    walk_at "rd"
    refine rd_fld_at e7 T.cEditor T.na_Editor_present (by rw [lookup_putF, if_neg (by decide +kernel), lookup_putF, if_neg (by decide +kernel), lookup_putF, if_neg (by decide +kernel), lookup_putF, if_pos rfl]) ?_
    walk_at "rd"
    refine rd_edset e7 T.cEditor T.na_Editor_kept_present fl4 fun H8 b8 e8 => ?_
    walk_at "rd"
    intro q9 H9 S9 e9 _
    walk_at "rd"
    refine rd_edset (S9 _ _ e8) T.cEditor T.na_Editor_kept_done fl5 fun H10 b10 e10 => ?_
    walk_at "rd"
    intro q11 H11 S11 e11 _
    walk_at "rd"
    refine rd_edset (S11 _ _ e10) T.cEditor T.na_Editor_kept_undone fl6 fun H12 b12 e12 => ?_
    walk_at "rd"
    rw [edF_made] at e12
    have m5 : Km CEditor [] H5 H12 := (((((Km.but b6 (S5 _ _ e4)).trans (.but b7 e6)).trans (.but b8 e7)).trans (.same S9)).trans (.but b10 (S9 _ _ e8))).trans ((Km.same S11).trans (.but b12 (S11 _ _ e10)))
    have m3 : Km CEditor [] H3 H12 := ((Km.but b4 (S3 _ _ e2)).trans (.same S5)).trans m5
    have m1 : Km CEditor [] H1 H12 := ((Km.but b2 (S1 _ _ hx)).trans (.same S3)).trans m3
    refine k _ (((((((But.same S1).trans b2).trans (.same S3)).trans b4).trans (.same S5)).trans b6).trans (((b7.trans b8).trans (.same S9)).trans ((b10.trans (.same S11)).trans b12))) ?_
    exact ⟨⟨dx, p, q3, q5, _, _, _, [], [], ss, [], []⟩, ⟨e12, TX.km ⟨t, T1, e1⟩ T.ne_Text_Editor T.ne_Part_Editor m1, m3.tup (SqT.of e3), .nil, m5.tup (SqT.of e5), .nil⟩, rfl, rfl, rfl⟩
end
section
variable {P : Program} {w : World} {K : PySem.W.Frag} {mg : Str → Option Value} {base : Heap} {CText CPart CCounter CEditor CKeyReader CTextError CInvalidStep CTooLong CInvalidPlace CInvalidLetter CARGUMENTS c_law p_law : Addr}
theorem ok_Editor_enter (T : Txt K mg CText CPart CCounter CEditor CKeyReader CTextError CInvalidStep CTooLong CInvalidPlace CInvalidLetter CARGUMENTS c_law p_law w) : MOk P w K mg base CX0 1 CEditor "enter" (sp_Editor_enter K CText CPart CEditor) := by
  refine T.d_Editor_enter.ok sc_Editor_enter (fun vs H Q E h => ?len) (fun f cdv A outer s H vs Q E hr h => ?_)
  case len => obtain ⟨e, v, a, ss, ds, us, o, s', rfl, _⟩ := h; rfl
  · obtain ⟨e, v, a, ss, ds, us, o, s', rfl, ed, ho, ta, hd, k⟩ := h
    obtain ⟨i, ed, rfl, rfl, rfl⟩ := ed
    refine ⟨_, (pss_cons (ps_fld (pv 0) (pe_tup (pa_starK (K := K) rfl (pe_fldK (K := K) rfl (pv 0) (by rfl)) (pa_cons (pe_tup (pa_cons (pv 1) (pa_cons (pe_fldK (K := K) rfl (pv 0) (by rfl)) (pa_cons (pv 2) pa_nil)))) pa_nil))) rfl)
    (pss_cons (ps_fld (pv 0) (pe_tup pa_nil) rfl)
    (pss_one (ps_fld (pv 0) (pv 2) rfl)))), ?_⟩
    refine rd_startE (show start N_Editor_enter [.ref e, v, .ref a] = [some (.ref e), some (v), some (.ref a)] from rfl) ?_
    walk_at "rd"
    refine rd_fld_at ed.ins T.cEditor T.na_Editor_done edF_done ?_
    refine ⟨i.d, i.dm, rfl, .inl ed.dn, ?_⟩
    walk_at "rd"
    refine rd_fld_at ed.ins T.cEditor T.na_Editor_present edF_present ?_
    walk_at "rd"
    intro q1 H1 S1 e1 _
    walk_at "rd"
    refine rd_new (by have := ed.de.1; rw [sizeLine_eq, List.length_append, List.length_singleton]; omega) fun q2 H2 S2 e2 _ => ?_
    walk_at "rd"
    refine rd_edset (S2 _ _ (S1 _ _ ed.ins)) T.cEditor T.na_Editor_done edF_len fun H3 b3 e3 => ?_
    rw [edF_put_d] at e3
    walk_at "rd"
    intro q4 H4 S4 e4 _
    walk_at "rd"
    refine rd_edset (S4 _ _ e3) T.cEditor T.na_Editor_undone edF_len fun H5 b5 e5 => ?_
    rw [edF_put_u] at e5
    walk_at "rd"
    refine rd_edset e5 T.cEditor T.na_Editor_present edF_len fun H6 b6 e6 => ?_
    rw [edF_put_p] at e6
    walk_at "rd"
    have m4 : Km CEditor [] H4 H6 := (Km.but b5 (S4 _ _ e3)).trans (.but b6 e5)
    have m2 : Km CEditor [] H2 H6 := ((Km.but b3 (S2 _ _ (S1 _ _ ed.ins))).trans (.same S4)).trans m4
    have m1 : Km CEditor [] H1 H6 := (Km.same S2).trans m2
    have m0 : Km CEditor [] H H6 := (Km.same S1).trans m1
    refine k _ ((((But.same (Same.trans S1 S2)).trans b3).trans (.same S4)).trans (b5.trans b6)) ?_
    refine ⟨⟨i.dx, a, q2, q4, i.kp, i.kd, i.ku, i.dm ++ [.ref q1], [], s', i.ds ++ [⟨o, i.ss, s'⟩], []⟩, ⟨e6, ta.km T.ne_Text_Editor T.ne_Part_Editor m0, m2.tup (SqT.of e2), ?_, m4.tup (SqT.of e4), .nil⟩, rfl, rfl, rfl⟩
    exact EntsAt.snoc (ed.de.km T.ne_Text_Editor T.ne_Part_Editor m0) ⟨q1, v, i.p, a, rfl, m1.tup (SqT.of e1), ho.km m0, ed.tx.km T.ne_Text_Editor T.ne_Part_Editor m0, ta.km T.ne_Text_Editor T.ne_Part_Editor m0⟩
end
section
variable {P : Program} {w : World} {K : PySem.W.Frag} {mg : Str → Option Value} {base : Heap} {CText CPart CCounter CEditor CKeyReader CTextError CInvalidStep CTooLong CInvalidPlace CInvalidLetter CARGUMENTS c_law p_law : Addr}
theorem ok_Editor_present_text (T : Txt K mg CText CPart CCounter CEditor CKeyReader CTextError CInvalidStep CTooLong CInvalidPlace CInvalidLetter CARGUMENTS c_law p_law w) : POk P w K mg base CX0 1 CEditor "present_text" (sp_Editor_present_text K CText CPart CEditor) := by
  refine T.d_Editor_present_text.ok sc_Editor_present_text (fun vs H Q E h => ?len) (fun f cdv A outer s H vs Q E hr h => ?_)
  case len => obtain ⟨e, ss, ds, us, rfl, _⟩ := h; rfl
  · obtain ⟨e, ss, ds, us, rfl, ed, k⟩ := h
    obtain ⟨i, ed, rfl, rfl, rfl⟩ := ed
    refine ⟨_, (pss_one (ps_ret (pe_fldK (K := K) rfl (pv 0) (by rfl)))), ?_⟩
    refine rd_startE (show start N_Editor_present_text [.ref e] = [some (.ref e)] from rfl) ?_
    walk_at "rd"
    refine rd_fld_at ed.ins T.cEditor T.na_Editor_present edF_present ?_
    exact k _ ed.tx
end
section
variable {P : Program} {w : World} {K : PySem.W.Frag} {mg : Str → Option Value} {base : Heap} {CText CPart CCounter CEditor CKeyReader CTextError CInvalidStep CTooLong CInvalidPlace CInvalidLetter CARGUMENTS c_law p_law : Addr}
theorem okR_Editor_add_step (T : Txt K mg CText CPart CCounter CEditor CKeyReader CTextError CInvalidStep CTooLong CInvalidPlace CInvalidLetter CARGUMENTS c_law p_law w) : MOk P w K mg base (L2.CX P w) 6 CEditor "add_step" (sp_Editor_add_stepR K CInvalidStep CTooLong CText CPart CEditor) := by
  refine T.d_Editor_add_step.okX sc_Editor_add_step (fun vs H Q E h => ?len) (fun f cdv A outer s H vs Q E hr h => ?_)
  case len => obtain ⟨e, a, xs, ss, ds, us, rfl, _⟩ := h; rfl
  · obtain ⟨e, a, xs, ss, ds, us, rfl, ed, hq, hs, hd, out⟩ := h
    obtain ⟨i, ed, rfl, rfl, rfl⟩ := ed
    refine ⟨_, (pss_cons (ps_set (i := 2) sc_Editor_add_step.nd rfl (Or.inl rfl) (pe_tup (pa_starK (K := K) rfl (pe_p (pe_fldK (K := K) rfl (pv 0) (by rfl)) T.cText (ok_Text_steps (K := K) T) (hr.mono (by decide)) pass0) (pa_cons (pv 1) pa_nil))))
    (pss_cons (ps_expr (pe_m (pv 0) T.cEditor (ok_Editor_enter (K := K) T) (hr.mono (by decide)) pass0 (pa_cons (pv 1) (pa_cons (pe_ks (pe_glob (v := .ref CText) rfl T.g_Text rfl) (okM_Text_init (K := K) T) (hr.mono (by decide)) (passX (takes_of rfl rfl rfl rfl)) (pv 2)) pa_nil))))
    (pss_one (ps_ret (pe_p (pe_fldK (K := K) rfl (pv 0) (by rfl)) T.cText (ok_Text_size (K := K) T) (hr.mono (by decide)) pass0))))), ?_⟩
    refine rd_startE (show start N_Editor_add_step [.ref e, .ref a] = [some (.ref e), some (.ref a), none] from rfl) ?_
    walk_at "rd"
    refine rd_fld_at ed.ins T.cEditor T.na_Editor_present edF_present ?_
    refine rd_pSteps ed.tx fun p ts => ?_
    obtain ⟨ms, hm, hst⟩ := ts
    refine ⟨p, ms, rfl, .inl hm, ?_⟩
    have ok := ed.tx.ok
    have few := ed.tx.few
    walk_at "rd"
    refine rd_new (by have := hst.1; rw [sizeLine_eq, List.length_append, List.length_singleton]; omega) fun q1 H1 S1 e1 _ => ?_
    walk_at "rd"
    refine ⟨EdAt.insM ⟨i, ed.same S1, rfl, rfl, rfl⟩, ?_⟩
    walk_at "rd"
    refine rd_mkS (.inl (SqT.of e1)) ?_
    rcases AddOut.same S1 out with ⟨s, rfl, h2, h3, h4, k⟩ | ⟨h1, k⟩ | ⟨s, rfl, h2, h3, h4, k⟩
    · refine rMk_l (rd_mkText (StepsAt.snoc (hst.mono S1) ⟨a, rfl, Same.tup S1 hq⟩) (ok_snocE ok h2 h4) (by simp; omega) fun x H2 t _ S2 T2 et => ?_)
      walk_at "rd"
      refine ⟨e, .ref a, x, i.ss, i.ds, i.us, .st s, i.ss ++ [s], rfl, ⟨i, (ed.same S1).same S2, rfl, rfl, rfl⟩, ⟨a, rfl, Same.tup S2 (Same.tup S1 hq)⟩, ⟨t, T2, et⟩, hd, fun H3 b3 ed3 => ?_⟩
      obtain ⟨j, ed3, e1, e2, e3⟩ := ed3
      walk_at "rd"
      refine rd_fld_at ed3.ins T.cEditor T.na_Editor_present edF_present ?_
      have tx3 := ed3.tx
      rw [e1] at tx3
      refine rd_pSize tx3 ?_
      exact k _ ((But.same S2).trans b3) ⟨j, ed3, e1, e2, e3⟩
    · exact rMk_r (rd_mkTextR (rej_last (hst.mono S1) ok few (Same.tup S1 hq) hs h1 k) (by have := hst.1; rw [sizeLine_eq, List.length_append, List.length_singleton]; omega))
    · exact rMk_r (rd_mkTextR (rej_long (hst.mono S1) ok ⟨a, rfl, Same.tup S1 hq⟩ h2 h3 h4 k) (by have := hst.1; rw [sizeLine_eq, List.length_append, List.length_singleton]; omega))
end
section
variable {P : Program} {w : World} {K : PySem.W.Frag} {mg : Str → Option Value} {base : Heap} {CText CPart CCounter CEditor CKeyReader CTextError CInvalidStep CTooLong CInvalidPlace CInvalidLetter CARGUMENTS c_law p_law : Addr}
theorem okR_Editor_write (T : Txt K mg CText CPart CCounter CEditor CKeyReader CTextError CInvalidStep CTooLong CInvalidPlace CInvalidLetter CARGUMENTS c_law p_law w) : BOk P w K mg base (L2.CX P w) 7 CEditor "write" (sp_Editor_writeR K CInvalidStep CTooLong CText CPart CEditor) := by
  refine T.d_Editor_write.okX sc_Editor_write (fun vs H Q E h => ?len) (fun f cdv A outer s H vs Q E hr h => ?_)
  case len => obtain ⟨e, v, ss, ds, us, rfl, _⟩ := h; rfl
  · obtain ⟨e, v, ss, ds, us, rfl, ed, hv, hd, out⟩ := h
    refine ⟨_, (pss_one (ps_ret (pe_m (pv 0) T.cEditor (okR_Editor_add_step (K := K) T) (hr.mono (by decide)) (passX (takes_of rfl rfl rfl rfl)) (pa_cons (pe_tup (pa_cons pe_str (pa_cons (pv 1) pa_nil))) pa_nil)))), ?_⟩
    refine rd_startE (show start N_Editor_write [.ref e, v] = [some (.ref e), some (v)] from rfl) ?_
    walk_at "rd"
    refine ⟨ed.insM, ?_⟩
    walk_at "rd"
    intro q1 H1 S1 e1 _
    walk_at "rd"
    refine ⟨e, q1, _, ss, ds, us, rfl, ed.same S1, SqT.of e1, fun x hx => ?_, hd, AddOut.same S1 out⟩
    simp only [List.mem_cons, List.not_mem_nil, or_false] at hx
    rcases hx with rfl | rfl
    · exact sml_word (by decide +kernel)
    · exact hv
end
section
variable {P : Program} {w : World} {K : PySem.W.Frag} {mg : Str → Option Value} {base : Heap} {CText CPart CCounter CEditor CKeyReader CTextError CInvalidStep CTooLong CInvalidPlace CInvalidLetter CARGUMENTS c_law p_law : Addr}
theorem okR_Editor_paste (T : Txt K mg CText CPart CCounter CEditor CKeyReader CTextError CInvalidStep CTooLong CInvalidPlace CInvalidLetter CARGUMENTS c_law p_law w) : BOk P w K mg base (L2.CX P w) 7 CEditor "paste" (sp_Editor_pasteR K CInvalidStep CTooLong CText CPart CEditor) := by
  refine T.d_Editor_paste.okX sc_Editor_paste (fun vs H Q E h => ?len) (fun f cdv A outer s H vs Q E hr h => ?_)
  case len => obtain ⟨e, f, l, t, ss, ds, us, rfl, _⟩ := h; rfl
  · obtain ⟨e, f, l, t, ss, ds, us, rfl, ed, h1, h2, h3, hd, out⟩ := h
    refine ⟨_, (pss_one (ps_ret (pe_m (pv 0) T.cEditor (okR_Editor_add_step (K := K) T) (hr.mono (by decide)) (passX (takes_of rfl rfl rfl rfl)) (pa_cons (pe_tup (pa_cons pe_str (pa_cons (pv 1) (pa_cons (pv 2) (pa_cons (pv 3) pa_nil))))) pa_nil)))), ?_⟩
    refine rd_startE (show start N_Editor_paste [.ref e, f, l, t] = [some (.ref e), some (f), some (l), some (t)] from rfl) ?_
    walk_at "rd"
    refine ⟨ed.insM, ?_⟩
    walk_at "rd"
    intro q1 H1 S1 e1 _
    walk_at "rd"
    refine ⟨e, q1, _, ss, ds, us, rfl, ed.same S1, SqT.of e1, fun x hx => ?_, hd, AddOut.same S1 out⟩
    simp only [List.mem_cons, List.not_mem_nil, or_false] at hx
    rcases hx with rfl | rfl | rfl | rfl
    · exact sml_word (by decide +kernel)
    · exact h1
    · exact h2
    · exact h3
end
section
variable {P : Program} {w : World} {K : PySem.W.Frag} {mg : Str → Option Value} {base : Heap} {CText CPart CCounter CEditor CKeyReader CTextError CInvalidStep CTooLong CInvalidPlace CInvalidLetter CARGUMENTS c_law p_law : Addr}
theorem okR_Editor_retype (T : Txt K mg CText CPart CCounter CEditor CKeyReader CTextError CInvalidStep CTooLong CInvalidPlace CInvalidLetter CARGUMENTS c_law p_law w) : BOk P w K mg base (L2.CX P w) 64 CEditor "retype" (sp_Editor_retypeR K CInvalidPlace CInvalidLetter CText CPart CEditor) := by
  refine T.d_Editor_retype.okX sc_Editor_retype (fun vs H Q E h => ?len) (fun f cdv A outer s H vs Q E hr h => ?_)
  case len => obtain ⟨e, p, l, ss, ds, us, rfl, _⟩ := h; rfl
  · obtain ⟨e, p, l, ss, ds, us, rfl, ed, hp, hl, hd, out⟩ := h
    obtain ⟨i, ed, rfl, rfl, rfl⟩ := ed
    refine ⟨_, (pss_cons (ps_set (i := 3) sc_Editor_retype.nd rfl (Or.inl rfl) (pe_oF (K := K) rfl (pv 0) (okM_Text_call (K := K) T) (hr.mono (by decide)) (passX (takes_of rfl rfl rfl rfl)) (pa_cons (pv 1) pa_nil)))
    (pss_cons (ps_if (pt_not (pt_val (pe_g (ok_is_letter (K := K) T) (hr.mono (by decide)) pass0 (pa_cons (pv 2) pa_nil)))) (pss_one (ps_rz T.x_InvalidLetter (takes_of rfl rfl rfl rfl)))
    pss_nil)
    (pss_cons (ps_set (i := 4) sc_Editor_retype.nd rfl (Or.inl rfl) (pe_cmpR (neK (K := K) rfl hr.units) (pe_ixO (ok_Text_getitem (K := K) T) (hr.mono (by decide)) pass0 (pe_fldK (K := K) rfl (pv 0) (by rfl)) (pv 1)) (pv 2) (nomark _)))
    (pss_cons (ps_set (i := 5) sc_Editor_retype.nd rfl (Or.inl rfl) (pe_g (ok_key_counts (K := K) T) (hr.mono (by decide)) pass0 (pa_cons (pe_fldK (K := K) rfl (pv 0) (by rfl)) (pa_cons pe_int (pa_cons (pe_op op_sub (pe_p (pe_fldK (K := K) rfl (pv 0) (by rfl)) T.cText (ok_Text_size (K := K) T) (hr.mono (by decide)) pass0) pe_int) pa_nil)))))
    (pss_cons (ps_expr (pe_m (pv 0) T.cEditor (ok_Editor_enter (K := K) T) (hr.mono (by decide)) pass0 (pa_cons (pe_tup (pa_cons pe_str (pa_cons (pv 1) (pa_cons (pv 2) pa_nil)))) (pa_cons (pe_m (pe_fldK (K := K) rfl (pv 0) (by rfl)) T.cText (ok_Text_retyped (K := K) T) (hr.mono (by decide)) pass0 (pa_cons (pv 3) (pa_cons (pv 2) pa_nil))) pa_nil))))
    (pss_one (ps_ret (pe_ifExp (pt_val (pv 4)) (pe_ix (ixK (K := K) rfl) (pv 5) (pv 3) (fun _ _ => rfl)) pe_int)))))))), ?_⟩
    refine rd_startE (show start N_Editor_retype [.ref e, p, l] = [some (.ref e), some (p), some (l), none, none, none] from rfl) ?_
    walk_at "rd"
    refine rd_oF ?_
    walk_at "rd"
    refine rd_fld_at ed.ins T.cEditor T.na_Editor_present edF_present ?_
    walk_at "rd"
    rcases out with ⟨j, c, rfl, rfl, h3, h4, h5, k⟩ | ⟨h1, k⟩ | ⟨h1, h2, k⟩
    · refine ⟨ed.tx.insA, .inl (rd_oCall ed.tx (by omega) (by omega) ?_).2⟩
      walk_at "rd"
      refine rd_isLetter ⟨h4, h5⟩ ?_
      walk_at "rd"
      refine rd_fld_at ed.ins T.cEditor T.na_Editor_present edF_present ?_
      walk_at "rd"
      refine rd_oItemA ed.tx (by omega) (by omega) ?_
      walk_at "rd"
      refine rd_fld_at ed.ins T.cEditor T.na_Editor_present edF_present ?_
      walk_at "rd"
      refine rd_fld_at ed.ins T.cEditor T.na_Editor_present edF_present ?_
      refine rd_pSize ed.tx ?_
      walk_at "rd"
      refine rd_keyCounts ed.tx (by omega) (by omega) (by omega) fun cl H1 S1 ec => ?_
      walk_at "rd"
      refine ⟨EdAt.insM ⟨i, ed.same S1, rfl, rfl, rfl⟩, ?_⟩
      walk_at "rd"
      intro q2 H2 S2 e2 _
      have ed2 := (ed.same S1).same S2
      have tx2 := ed2.tx
      have hk : kat i.ss (j : Int).toNat < (tyL i.ss).length := kat_lt tx2.ok (by omega)
      walk_at "rd"
      refine rd_fld_at ed2.ins T.cEditor T.na_Editor_present edF_present ?_
      walk_at "rd"
      intro p3 H3 S3 T3
      have ed3 := ed2.same S3
      walk_at "rd"
      refine ⟨e, .ref q2, p3, i.ss, i.ds, i.us, .re j c, aft i.ss (.re j c), rfl, ⟨i, ed3, rfl, rfl, rfl⟩, ⟨q2, rfl, SqT.of (S3 _ _ e2)⟩, T3, hd, fun H4 b4 ed4 => ?_⟩
      have ec4 : H4 cl = some (.lst (natV (kcs i.ss 0 (sz i.ss)))) := by
        have := km_natV (S3 _ _ (S2 _ _ ec)) (Km.but (T := []) b4 ed3.ins)
        rw [show ((sz i.ss : Int) - 1 + 1).toNat = sz i.ss by omega] at this
        exact this
      have kfin := k H4 ((But.same (Same.trans (Same.trans S1 S2) S3)).trans b4) ed4
      walk_at "rd"
      rw [show opN i.ss (.re j c) = if lat i.ss (kat i.ss j) = c then 0 else cn i.ss (sz i.ss) (kat i.ss j) from rfl] at kfin
      rw [sgn_eqd]
      by_cases hc : lat i.ss (kat i.ss j) = c
      · rw [if_pos hc] at kfin
        refine rd_nF hc ?_
        walk_at "rd"
        exact kfin
      · rw [if_neg hc] at kfin
        refine rd_nT hc ?_
        walk_at "rd"
        refine rd_ixN ec4 (by omega) (by rw [kcs_len]; omega) ?_
        rw [kcs_at hk]
        exact kfin
    · refine ⟨ed.tx.insA, .inr (rd_oCallR ed.tx hp.1 h1 (k _ (Same.refl _))).2⟩
    · obtain ⟨j, rfl, h3⟩ : ∃ j : Nat, p = .int (j : Nat) ∧ j < sz i.ss := by
        cases p with
        | int z =>
          have := of_decide_eq_true h1
          exact ⟨z.toNat, by rw [Int.toNat_of_nonneg this.1], by omega⟩
        | _ => cases h1
      refine ⟨ed.tx.insA, .inl (rd_oCall ed.tx (by omega) (by omega) ?_).2⟩
      walk_at "rd"
      refine ⟨l, rfl, hl.1, hl.2, ?_⟩
      rw [h2]
      walk_at "rd"
      exact k _ (Same.refl _)
end
section
variable {P : Program} {w : World} {K : PySem.W.Frag} {mg : Str → Option Value} {base : Heap} {CText CPart CCounter CEditor CKeyReader CTextError CInvalidStep CTooLong CInvalidPlace CInvalidLetter CARGUMENTS c_law p_law : Addr}
theorem okR_Editor_execute (T : Txt K mg CText CPart CCounter CEditor CKeyReader CTextError CInvalidStep CTooLong CInvalidPlace CInvalidLetter CARGUMENTS c_law p_law w) : MOk P w K mg base (L2.CX P w) 65 CEditor "execute" (sp_Editor_executeR K CInvalidStep CTooLong CInvalidPlace CInvalidLetter CText CPart CEditor) := by
  refine T.d_Editor_execute.okX sc_Editor_execute (fun vs H Q E h => ?len) (fun f cdv A outer s H vs Q E hr h => ?_)
  case len => obtain ⟨e, a, xs, ss, ds, us, rfl, _⟩ := h; rfl
  · obtain ⟨e, a, xs, ss, ds, us, rfl, ed, hq, hs, ho, hd, out⟩ := h
    refine ⟨_, (pss_cons (ps_asg (pv 1) (pg_star (K := K) (i := 1) (n := 2) rfl rfl (pgs_cons (pg_name (i := 2) sc_Editor_execute.nd rfl (Or.inl rfl)) (pgs_star (pg_name (i := 3) sc_Editor_execute.nd rfl (Or.inl rfl)) pgs_nil))))
    (pss_cons (ps_if (pt_cmpR (eqK (K := K) rfl hr.units) (pv 2) pe_str (nomark _)) (pss_one (ps_ret (pe_mS (K := K) rfl (pv 0) T.cEditor (okR_Editor_write (K := K) T) (hr.mono (by decide)) (passX (takes_of rfl rfl rfl rfl)) (pv 3))))
    pss_nil)
    (pss_one (ps_ret (pe_ifExp (pt_cmpR (eqK (K := K) rfl hr.units) (pv 2) pe_str (nomark _)) (pe_mS (K := K) rfl (pv 0) T.cEditor (okR_Editor_paste (K := K) T) (hr.mono (by decide)) (passX (takes_of rfl rfl rfl rfl)) (pv 3)) (pe_mS (K := K) rfl (pv 0) T.cEditor (okR_Editor_retype (K := K) T) (hr.mono (by decide)) (passX (takes_of rfl rfl rfl rfl)) (pv 3))))))), ?_⟩
    refine rd_startE (show start N_Editor_execute [.ref e, .ref a] = [some (.ref e), some (.ref a), none, none] from rfl) ?_
    walk_at "rd"
    rcases isOp_cases ho with ⟨v, rfl⟩ | ⟨x, y, z, rfl⟩ | ⟨p, l, rfl⟩
    · refine rd_gstar1 hq (by show 1 < 16384; decide) fun D H1 S1 nD eD => ?_
      walk_at "rd"
      refine rd_mS ?_
      walk_at "rd"
      refine ⟨(ed.same S1).insM, fun H2 S2 => ?_⟩
      walk_at "rd"
      refine ⟨Same.refl _, D, _, rfl, .inr (SqL.of (S2 _ _ eD)), ?_⟩
      have S3 : Same H H2 := Same.trans S1 S2
      exact ⟨e, v, ss, ds, us, rfl, ed.same S3, hs _ (by simp), hd, AddOut.same S3 out⟩
    · refine rd_gstar1 hq (by show 3 < 16384; decide) fun D H1 S1 nD eD => ?_
      walk_at "rd"
      refine rd_mS ?_
      walk_at "rd"
      refine ⟨(ed.same S1).insM, fun H2 S2 => ?_⟩
      walk_at "rd"
      refine ⟨Same.refl _, D, _, rfl, .inr (SqL.of (S2 _ _ eD)), ?_⟩
      have S3 : Same H H2 := Same.trans S1 S2
      exact ⟨e, x, y, z, ss, ds, us, rfl, ed.same S3, hs _ (by simp), hs _ (by simp), hs _ (by simp), hd, AddOut.same S3 out⟩
    · refine rd_gstar1 hq (by show 2 < 16384; decide) fun D H1 S1 nD eD => ?_
      walk_at "rd"
      refine rd_mS ?_
      walk_at "rd"
      refine ⟨(ed.same S1).insM, fun H2 S2 => ?_⟩
      walk_at "rd"
      refine ⟨Same.refl _, D, _, rfl, .inr (SqL.of (S2 _ _ eD)), ?_⟩
      have S3 : Same H H2 := Same.trans S1 S2
      exact ⟨e, p, l, ss, ds, us, rfl, ed.same S3, hs _ (by simp), hs _ (by simp), hd, RetOut.same S3 out⟩
end
section
variable {P : Program} {w : World} {K : PySem.W.Frag} {mg : Str → Option Value} {base : Heap} {CText CPart CCounter CEditor CKeyReader CTextError CInvalidStep CTooLong CInvalidPlace CInvalidLetter CARGUMENTS c_law p_law : Addr}
theorem ok_Editor_write (T : Txt K mg CText CPart CCounter CEditor CKeyReader CTextError CInvalidStep CTooLong CInvalidPlace CInvalidLetter CARGUMENTS c_law p_law w) : BOk P w K mg base CX0 7 CEditor "write" (nox (sp_Editor_writeR K CInvalidStep CTooLong CText CPart CEditor)) := (okR_Editor_write T).down
end
section
variable {P : Program} {w : World} {K : PySem.W.Frag} {mg : Str → Option Value} {base : Heap} {CText CPart CCounter CEditor CKeyReader CTextError CInvalidStep CTooLong CInvalidPlace CInvalidLetter CARGUMENTS c_law p_law : Addr}
theorem ok_Editor_execute (T : Txt K mg CText CPart CCounter CEditor CKeyReader CTextError CInvalidStep CTooLong CInvalidPlace CInvalidLetter CARGUMENTS c_law p_law w) : MOk P w K mg base CX0 65 CEditor "execute" (nox (sp_Editor_executeR K CInvalidStep CTooLong CInvalidPlace CInvalidLetter CText CPart CEditor)) := (okR_Editor_execute T).down
end
section
variable {P : Program} {w : World} {K : PySem.W.Frag} {mg : Str → Option Value} {base : Heap} {CText CPart CCounter CEditor CKeyReader CTextError CInvalidStep CTooLong CInvalidPlace CInvalidLetter CARGUMENTS c_law p_law : Addr}
theorem ok_Editor_history (T : Txt K mg CText CPart CCounter CEditor CKeyReader CTextError CInvalidStep CTooLong CInvalidPlace CInvalidLetter CARGUMENTS c_law p_law w) : POk P w K mg base CX0 1 CEditor "history" (sp_Editor_history K CText CPart CEditor) := by
  refine T.d_Editor_history.ok sc_Editor_history (fun vs H Q E h => ?len) (fun f cdv A outer s H vs Q E hr h => ?_)
  case len => obtain ⟨e, ss, ds, us, rfl, _⟩ := h; rfl
  · obtain ⟨e, ss, ds, us, rfl, ed, hn, k⟩ := h
    obtain ⟨i, ed, rfl, rfl, rfl⟩ := ed
    refine ⟨_, (pss_one (ps_ret (pe_lc (own := [("operation", 1), ("before", 2), ("after", 3)]) rfl sc_Editor_history.nd (pi_tupK (K := K) rfl (pe_fldK (K := K) rfl (pv 0) (by rfl))) (blkOk_by (own := [("operation", 1), ("before", 2), ("after", 3)]) (N := N_Editor_history) (sc := (defScope s_Editor_history)) (by first | decide +kernel | rfl)) (fun _ _ _ _ _ => (pg_tupK (K := K) (n := 3) rfl rfl (pgs_cons (pg_name (i := 1) sc_Editor_history.nd rfl (Or.inl rfl)) (pgs_cons (pg_name (i := 2) sc_Editor_history.nd rfl (Or.inl rfl)) (pgs_cons (pg_name (i := 3) sc_Editor_history.nd rfl (Or.inl rfl)) pgs_nil))))) (fun _ _ _ _ _ => pts_nil) (fun _ _ _ _ _ => (pv 1))))), ?_⟩
    refine rd_startE (show start N_Editor_history [.ref e] = [some (.ref e), none, none, none] from rfl) ?_
    walk_at "rd"
    refine rd_fld_at ed.ins T.cEditor T.na_Editor_done edF_done ?_
    have hl := ed.de.1
    refine ⟨i.d, rfl, ⟨i.dm, ed.dn⟩, fun D hD => lc_relH (n := i.dm.length) (plain_tup ed.dn) hD (by rw [sizeLine_eq]; omega) (fun j y H' => ∃ o, (i.ds.map (·.o))[j]? = some o ∧ OpAt K H' y o) (fun j y H1 H2 l hj eD b z => ?_) (fun j H1 Q1 hj S1 q => ?_) fun H1 ys S1 eD hy hr => ?_⟩
    · obtain ⟨o, h1, a, h2, h3⟩ := z
      exact ⟨o, h1, a, h2, b.tup (free1_lst eD) h3⟩
    · have hj' : j < i.ds.length := by omega
      obtain ⟨v, ev, t, o, b, a, rfl, q1, q2, _⟩ := ed.de.2 j _ (List.getElem?_eq_getElem hj')
      obtain ⟨oa, rfl, q3⟩ := q2
      rw [ev, Option.getD_some]
      refine rd_gtup (Same.tup S1 q1) rfl ?_
      walk_at "rd"
      refine ⟨rfl, ?_⟩
      walk_at "rd"
      exact q _ _ (Same.refl _) ⟨_, by rw [List.getElem?_map, List.getElem?_eq_getElem hj']; rfl, oa, rfl, Same.tup S1 q3⟩
    · refine k H1 D ys S1 hD eD ⟨by rw [hy, hl, List.length_map], fun j o hj => ?_⟩
      have hlt : j < i.dm.length := by
        have := (List.getElem?_eq_some_iff.mp hj).1
        rw [List.length_map] at this; omega
      obtain ⟨y, h1, o', h2, h3⟩ := hr j hlt
      rw [hj] at h2; cases h2
      exact ⟨y, h1, h3⟩
end
local macro_rules | `(tactic| walk_at "rd1_Fa") => `(tactic| first
  | with_reducible refine rd_seq ?_ | with_reducible refine rd_asg ?_ | with_reducible refine rd_name ?_ | ((with_reducible refine' rd_var ?k1 ?_); (case k1 => rfl)) | with_reducible refine rd_C ?_ | with_reducible refine rd_op ?_ | with_reducible refine rd_cons ?_ | with_reducible refine rd_nil ?_
  | with_reducible refine rd_test ?_ | with_reducible refine rd_tB ?_ | with_reducible refine rd_bl ?_ | with_reducible refine rd_ifS ?_ | with_reducible refine rd_and ?_ | with_reducible refine rd_or ?_ | with_reducible refine rd_not ?_ | with_reducible refine rd_andV ?_ | with_reducible refine rd_orV ?_ | with_reducible refine rd_notV ?_ | with_reducible refine rd_chain ?_
  | with_reducible refine rd_if ?_ | with_reducible refine rd_g ?_ | with_reducible refine rd_m ?_ | with_reducible refine rd_star ?_ | with_reducible refine rd_tup ?_ | with_reducible refine rd_lst ?_ | with_reducible refine rd_fld ?_ | with_reducible refine rd_cb ?_ | with_reducible refine rd_un ?_ | with_reducible refine rd_makeR ?_ | with_reducible refine rd_makeS ?_
  | with_reducible refine rd_bm ?_ | with_reducible refine rd_bm0 ?_ | with_reducible refine rd_next ?_ | with_reducible refine rd_break ?_ | with_reducible refine rd_cont ?_ | with_reducible refine rd_ret ?_ | with_reducible refine rd_retN ?_ | with_reducible refine rd_drop ?_ | with_reducible refine rd_gcons ?_ | with_reducible refine rd_gnil ?_ | with_reducible refine rd_gsub ?_
  | ((with_reducible refine' rd_aug ?k1 ?_); (case k1 => rfl)) | with_reducible refine rd_ipI ?_ | with_reducible refine rd_sfld ?_ | with_reducible refine rd_for ?_ | with_reducible refine rd_iStr ?_ | with_reducible refine rd_iList ?_ | with_reducible refine rd_iTup ?_ | with_reducible refine rd_iRng1 ?_ | with_reducible refine rd_iRng2 ?_ | with_reducible refine rd_iEnumT ?_ | with_reducible refine rd_match ?_ | with_reducible refine rd_par ?_ | with_reducible refine rd_two ?_
  | with_reducible refine rd_sl ?_ | with_reducible refine rd_noPart ?_ | with_reducible refine rd_part ?_ | with_reducible refine rd_pint ?_ | with_reducible refine rd_listRg ?_ | with_reducible refine rd_rg1 ?_ | with_reducible refine rd_rg2 ?_ | with_reducible refine rd_ixO ?_ | with_reducible refine rd_U ?_ | with_reducible refine rd_int_int ?_ | with_reducible refine rd_int_bl ?_ | with_reducible refine rd_min2 ?_ | with_reducible refine rd_max2 ?_ | with_reducible refine rd_in_sign ?_ | with_reducible refine rd_isN ?_ | with_reducible refine rd_notN ?_
  | with_reducible refine rd_lc ?_ | with_reducible refine rd_yes ?_ | with_reducible refine rd_prop ?_ | with_reducible refine rd_cmeth ?_ | with_reducible refine rd_o ?_ | with_reducible refine rd_add_int ?_ | with_reducible refine rd_sub ?_ | with_reducible refine rd_eq_int ?_ | with_reducible refine rd_eq_str ?_ | with_reducible refine rd_eq_bl ?_ | with_reducible refine rd_ne_int ?_ | with_reducible refine rd_ne_str ?_ | with_reducible refine rd_ne_bl ?_ | with_reducible refine rd_I0 ?_
  | with_reducible refine rd_isi_int_int ?_ | with_reducible refine rd_isi_int_bool ?_ | with_reducible refine rd_isi_int_str ?_ | with_reducible refine rd_isi_int_list ?_ | with_reducible refine rd_isi_int_tuple ?_ | with_reducible refine rd_isi_bl_int ?_ | with_reducible refine rd_isi_bl_bool ?_ | with_reducible refine rd_isi_bl_str ?_ | with_reducible refine rd_isi_bl_list ?_ | with_reducible refine rd_isi_bl_tuple ?_ | with_reducible refine rd_isi_str_int ?_ | with_reducible refine rd_isi_str_bool ?_ | with_reducible refine rd_isi_str_str ?_ | with_reducible refine rd_isi_str_list ?_ | with_reducible refine rd_isi_str_tuple ?_ | with_reducible refine rd_isi_non_int ?_ | with_reducible refine rd_isi_non_bool ?_ | with_reducible refine rd_isi_non_str ?_ | with_reducible refine rd_isi_non_list ?_ | with_reducible refine rd_isi_non_tuple ?_)
local macro_rules | `(tactic| walk_at "rd_Fa") => `(tactic| repeat walk_at "rd1_Fa")
local macro_rules | `(tactic| walk_at "same_Fa") => `(tactic| first | assumption | exact Same.refl _ | (refine Same.new ?_ (by assumption); walk_at "same_Fa") | (refine Same.mut ?_ (by assumption); walk_at "same_Fa") | (refine Same.trans ?_ (by assumption); walk_at "same_Fa"))
local macro_rules | `(tactic| walk_at "zl_Fa") => `(tactic| (rw [sizeLine_eq]; first | decide | (simp only [List.length_cons, List.length_nil]; omega) | omega))
local macro_rules | `(tactic| walk_at "sm_Fa") => `(tactic| first | exact Same.refl _ | assumption | ((with_reducible refine' Same.trans ?sx ?sy); (case sy => assumption); (case sx => walk_at "sm_Fa")))
local macro_rules | `(tactic| walk_at "kp_Fa") => `(tactic| first | exact Kp.refl | assumption | ((with_reducible refine' Kp.trans ?kx ?ky); (case ky => assumption); (case kx => walk_at "kp_Fa")) | ((with_reducible refine' Kp.trans ?kx (Kp.same ?ky)); (case ky => assumption); (case kx => walk_at "kp_Fa")))
local macro_rules | `(tactic| walk_at "tx_Fa") => `(tactic| first | assumption | ((with_reducible refine' TX.kp ?tx1 ?tx2); (case tx1 => assumption); (case tx2 => walk_at "kp_Fa")))
local macro_rules | `(tactic| walk_at "ts_Fa") => `(tactic| first | assumption | ((with_reducible refine' TS'.kp ?tx1 ?tx2); (case tx1 => assumption); (case tx2 => walk_at "kp_Fa")) | ((with_reducible refine' ts_nil ?tx1); (case tx1 => assumption)))
local macro_rules | `(tactic| walk_at "sx_Fa") => `(tactic| first | assumption | ((with_reducible refine' SX.kp ?tx1 ?tx2); (case tx1 => assumption); (case tx2 => walk_at "kp_Fa")) | ((with_reducible refine' TS'.sx ?tx1); (case tx1 => walk_at "ts_Fa")))
local macro_rules | `(tactic| walk_at "row_Fa") => `(tactic| first | assumption | ((with_reducible refine' RowAt.mono ?tx1 ?tx2); (case tx1 => assumption); (case tx2 => walk_at "sm_Fa")))
local macro_rules | `(tactic| walk_at "ls_Fa") => `(tactic| first | assumption | ((with_reducible refine' kp_natV ?tx1 ?tx2); (case tx1 => assumption); (case tx2 => walk_at "kp_Fa")) | ((with_reducible refine' kp_sgV ?tx1 ?tx2); (case tx1 => assumption); (case tx2 => walk_at "kp_Fa")) | ((refine' Same.lk ?tx1 ?tx2); (case tx1 => assumption); (case tx2 => walk_at "sm_Fa")))
local macro_rules | `(tactic| walk_at "om_Fa") => `(tactic| first | omega | with_reducible assumption)
local macro_rules | `(tactic| walk_at "rd1_Fa") => `(tactic| first
  | with_reducible refine rd_cons ?_ | ((with_reducible refine' rd_var ?k1 ?_); (case k1 => rfl)) | with_reducible refine rd_C ?_ | with_reducible refine rd_nil ?_ | with_reducible refine rd_op ?_ | with_reducible refine rd_g ?_
  | ((with_reducible refine' rd_nameE ?k1 ?_); (case k1 => (dsimp only [List.set_cons_zero, List.set_cons_succ]; exact rfl))) | with_reducible refine rd_asg ?_ | with_reducible refine rd_seq ?_ | with_reducible refine rd_andrfl ?_ | with_reducible refine rd_prop ?_ | with_reducible refine rd_cb ?_ | with_reducible refine rd_test ?_ | with_reducible refine rd_bl ?_ | with_reducible refine rd_ifS ?_ | with_reducible refine rd_next ?_
  | with_reducible refine rd_tupN ?_ | with_reducible refine rd_lstN ?_ | with_reducible refine rd_add_int ?_ | with_reducible refine rd_sub ?_ | with_reducible refine rd_tB ?_ | with_reducible refine rd_not ?_ | with_reducible refine rd_and ?_ | with_reducible refine rd_or ?_ | with_reducible refine rd_ret ?_ | with_reducible refine rd_cmeth ?_ | with_reducible refine rd_o ?_ | with_reducible refine rd_I0 ?_
  | ((with_reducible show @Eq (Option HO) _ Option.none → _); intro) | with_reducible refine rd_m1 ?_ | with_reducible refine rd_exStr ?_ | ((with_reducible refine' rd_iNat ?k1 ?_); (case k1 => walk_at "ls_Fa"))
  | ((with_reducible refine' rd_taken ?k1 ?k2 ?k3 ?_); (case k1 => walk_at "row_Fa"); (case k2 => walk_at "om_Fa"); (case k3 => walk_at "om_Fa"))
  | ((with_reducible refine' rd_word ?k1 ?k2 ?k3 ?_); (case k1 => walk_at "row_Fa"); (case k2 => walk_at "om_Fa"); (case k3 => walk_at "om_Fa"))
  | ((with_reducible refine' rd_stepsL ?k1 ?k2 ?k3 ?k4 ?k5 ?_); (case k1 => walk_at "row_Fa"); (case k2 => walk_at "om_Fa"); (case k3 => walk_at "om_Fa"); (case k4 => walk_at "om_Fa"); (case k5 => walk_at "om_Fa"))
  | ((with_reducible refine' rd_listS ?k1 ?_); (case k1 => walk_at "ts_Fa"))
  | ((with_reducible refine' rd_ofSteps ?k1 ?k2 ?k3 ?_); (case k1 => walk_at "sx_Fa"); (case k2 => walk_at "om_Fa"); (case k3 => walk_at "om_Fa"))
  | ((with_reducible refine' rd_pSize ?k1 ?_); (case k1 => walk_at "tx_Fa"))
  | ((with_reducible refine' rd_pTyped ?k1 ?_); (case k1 => walk_at "tx_Fa"))
  | ((with_reducible refine' rd_pSteps ?k1 ?_); (case k1 => walk_at "tx_Fa"))
  | ((with_reducible refine' rd_oCall ?k1 ?k2 ?k3 ?_); (case k1 => walk_at "tx_Fa"); (case k2 => walk_at "om_Fa"); (case k3 => walk_at "om_Fa"))
  | ((with_reducible refine' rd_oItem ?k1 ?k2 ?k3 ?_); (case k1 => walk_at "tx_Fa"); (case k2 => walk_at "om_Fa"); (case k3 => walk_at "om_Fa"))
  | ((with_reducible refine' rd_opAdd ?k1 ?k2 ?k3 ?k4 ?_); (case k1 => walk_at "tx_Fa"); (case k2 => walk_at "tx_Fa"); (case k3 => walk_at "om_Fa"); (case k4 => walk_at "om_Fa"))
  | ((with_reducible refine' rd_opMul ?k1 ?k2 ?k3 ?k4 ?k5 ?_); (case k1 => walk_at "tx_Fa"); (case k2 => walk_at "om_Fa"); (case k3 => walk_at "om_Fa"); (case k4 => walk_at "om_Fa"); (case k5 => walk_at "om_Fa"))
  | ((with_reducible refine' rd_opEq ?k1 ?k2 ?_); (case k1 => walk_at "tx_Fa"); (case k2 => walk_at "tx_Fa"))
  | ((with_reducible refine' rd_opEqT ?k1 ?k2 ?_); (case k1 => walk_at "tx_Fa"); (case k2 => walk_at "ts_Fa"))
  | ((with_reducible refine' rd_opNe ?k1 ?k2 ?_); (case k1 => walk_at "tx_Fa"); (case k2 => walk_at "tx_Fa"))
  | ((with_reducible refine' rd_mTx ?k1 ?k2 ?_); (case k1 => walk_at "tx_Fa"); (case k2 => decide +kernel))
  | ((with_reducible refine' rd_mRetyped ?k1 ?k2 ?k3 ?_); (case k1 => walk_at "tx_Fa"); (case k2 => walk_at "om_Fa"); (case k3 => walk_at "om_Fa"))
  | ((with_reducible refine' rd_eqTT ?k1 ?k2 ?k3 ?k4 ?_); (case k1 => walk_at "ts_Fa"); (case k2 => walk_at "ts_Fa"); (case k3 => first | assumption | trivial); (case k4 => first | assumption | trivial))
  | ((with_reducible refine' rd_neTT ?k1 ?k2 ?k3 ?k4 ?_); (case k1 => walk_at "ts_Fa"); (case k2 => walk_at "ts_Fa"); (case k3 => first | assumption | trivial); (case k4 => first | assumption | trivial))
  | ((with_reducible refine' rd_neNN ?k1 ?k2 ?_); (case k1 => walk_at "ls_Fa"); (case k2 => walk_at "ls_Fa"))
  | ((with_reducible refine' rd_eqNN ?k1 ?k2 ?_); (case k1 => walk_at "ls_Fa"); (case k2 => walk_at "ls_Fa"))
  | ((with_reducible refine' rd_lenN ?k1 ?_); (case k1 => walk_at "ls_Fa"))
  | ((with_reducible refine' rd_lenS ?k1 ?_); (case k1 => walk_at "om_Fa"))
  | ((with_reducible refine' rd_ixN ?k1 ?k2 ?k3 ?_); (case k1 => walk_at "ls_Fa"); (case k2 => walk_at "om_Fa"); (case k3 => walk_at "om_Fa"))
  | ((with_reducible refine' rd_ixC ?k1 ?k2 ?k3 ?_); (case k1 => walk_at "om_Fa"); (case k2 => walk_at "om_Fa"); (case k3 => walk_at "om_Fa"))
  | ((with_reducible refine' rd_gtup ?k1 ?k2 ?_); (case k1 => exact SqT.of (by assumption)); (case k2 => rfl))
  | ((with_reducible refine' rd_new ?k1 ?_); (case k1 => walk_at "zl_Fa"))
  | with_reducible refine rd_ref1 ?_
  | with_reducible refine rd_nF rfl ?_ | with_reducible refine rd_dT rfl ?_ | with_reducible refine rd_cT rfl ?_ | with_reducible refine rd_cF rfl ?_
  | ((with_reducible refine' rd_dT ?k1 ?_); (case k1 => omega)) | ((with_reducible refine' rd_dF ?k1 ?_); (case k1 => omega)) | ((with_reducible refine' rd_nT ?k1 ?_); (case k1 => omega)) | ((with_reducible refine' rd_nF ?k1 ?_); (case k1 => omega)))
local macro_rules | `(tactic| walk_at "rdS_Fa") => `(tactic| repeat ((fail_if_success with_reducible show tIfS _ _ _ _ _ _); walk_at "rd1_Fa"))
section
variable {P : Program} {w : World} {K : PySem.W.Frag} {mg : Str → Option Value} {base : Heap} {CText CPart CCounter CEditor CKeyReader CTextError CInvalidStep CTooLong CInvalidPlace CInvalidLetter CARGUMENTS c_law p_law : Addr}
theorem ok_Editor_apply (T : Txt K mg CText CPart CCounter CEditor CKeyReader CTextError CInvalidStep CTooLong CInvalidPlace CInvalidLetter CARGUMENTS c_law p_law w) : BOk P w K mg base CX0 1 CEditor "apply" (spStar 1 (sp_Editor_apply0 K CText CPart CEditor)) := by
  refine T.d_Editor_apply.ok sc_Editor_apply (fun f cdv A outer s H vs Q E hr h => ?_)
  · obtain ⟨e, m, ss, ds, us, rfl, ed, hm, k⟩ := h
    obtain ⟨i, ed, rfl, rfl, rfl⟩ := ed
    refine ⟨_, (pss_cons (ps_for PassesOwn.never rfl (pi_enumT T.n_enumerate (pa_cons (pv 1) pa_nil)) (pg_tupK (K := K) (n := 2) rfl rfl (pgs_cons (pg_name (i := 2) sc_Editor_apply.nd rfl (Or.inl rfl)) (pgs_cons (pg_name (i := 3) sc_Editor_apply.nd rfl (Or.inl rfl)) pgs_nil))) (pss_one (ps_never)))
    (pss_cons (ps_asg (pe_tup (pa_cons (pe_fldK (K := K) rfl (pv 0) (by rfl)) (pa_cons (pe_fldK (K := K) rfl (pv 0) (by rfl)) (pa_cons (pe_fldK (K := K) rfl (pv 0) (by rfl)) (pa_cons (pe_lst pa_nil) (pa_cons pe_non pa_nil)))))) (pg_tupK (K := K) (n := 5) rfl rfl (pgs_cons (pg_name (i := 4) sc_Editor_apply.nd rfl (Or.inl rfl)) (pgs_cons (pg_name (i := 5) sc_Editor_apply.nd rfl (Or.inl rfl)) (pgs_cons (pg_name (i := 6) sc_Editor_apply.nd rfl (Or.inl rfl)) (pgs_cons (pg_name (i := 7) sc_Editor_apply.nd rfl (Or.inl rfl)) (pgs_cons (pg_name (i := 8) sc_Editor_apply.nd rfl (Or.inl rfl)) pgs_nil)))))))
    (pss_cons (ps_fin0 (pss_cons (ps_for PassesOwn.never rfl (pi_tupK (K := K) rfl (pv 1)) (pg_name (i := 3) sc_Editor_apply.nd rfl (Or.inl rfl)) (pss_one (ps_never)))
    (pss_one (ps_set (i := 8) sc_Editor_apply.nd rfl (Or.inl rfl) pe_bl)))
    (pss_one (ps_if (pt_cmpR oIsN (pv 8) pe_non (nomark _)) (pss_one (ps_asg (pe_tup (pa_cons (pv 4) (pa_cons (pv 5) (pa_cons (pv 6) pa_nil)))) (pg_tupK (K := K) (n := 3) rfl rfl (pgs_cons (pg_fld (K := K) rfl (pv 0)) (pgs_cons (pg_fld (K := K) rfl (pv 0)) (pgs_cons (pg_fld (K := K) rfl (pv 0)) pgs_nil))))))
    pss_nil)))
    (pss_one (ps_ret (pv 7)))))), ?_⟩
    refine rd_startE (show start N_Editor_apply [.ref e, .ref m] = [some (.ref e), some (.ref m), none, none, none, none, none, none, none] from rfl) ?_
    walk_at "rd_Fa"
    refine ⟨m, [], rfl, hm, for_enumT (xs := []) (fun j σ H' => ∃ v2 v3, σ = [some (.ref e), some (.ref m), v2, v3, none, none, none, none, none] ∧ Same H H')
      ⟨_, _, rfl, Same.refl _⟩ (fun j σ H' _ ⟨_, _, _, S⟩ => Same.tup S hm) ?_ ?_⟩
    · rintro j v' tu σ H1 hv' _ hT
      simp at hv'
    · rintro σ H1 ⟨v2, v3, rfl, S1⟩
      have ed1 := ed.same S1
      walk_at "rd_Fa"
      refine rd_fld_at ed1.ins T.cEditor T.na_Editor_present edF_present ?_
      walk_at "rd_Fa"
      refine rd_fld_at ed1.ins T.cEditor T.na_Editor_done edF_done ?_
      walk_at "rd_Fa"
      refine rd_fld_at ed1.ins T.cEditor T.na_Editor_undone edF_undone ?_
      walk_at "rd_Fa"
      intro R H2 S2 e2 n2
      walk_at "rd_Fa"
      intro tp H3 S3 e3 _
      refine rd_gtup (SqT.of e3) rfl ?_
      walk_at "rd_Fa"
      refine rd_fin0 ?_
      walk_at "rd_Fa"
      have S03 : Same H H3 := Same.trans S1 (Same.trans S2 S3)
      refine ⟨⟨_, Same.tup S03 hm⟩, for_tup (xs := []) (fun j σ H' => ∃ v2 v3, σ = [some (.ref e), some (.ref m), v2, v3, some (.ref i.p), some (.ref i.d), some (.ref i.u), some (.ref R), some .non] ∧ Same H3 H')
        ⟨_, _, rfl, Same.refl _⟩ (fun j σ H' _ ⟨_, _, _, S⟩ => Same.tup (Same.trans S03 S) hm) ?_ ?_⟩
      · rintro j v' σ H4 hv' _
        simp at hv'
      · rintro σ H4 ⟨v2, v3, rfl, S4⟩
        walk_at "rd_Fa"
        exact k H4 R (Same.trans S03 S4) (S4 _ _ (S3 _ _ e2))
end
section
variable {P : Program} {w : World} {K : PySem.W.Frag} {mg : Str → Option Value} {base : Heap} {CText CPart CCounter CEditor CKeyReader CTextError CInvalidStep CTooLong CInvalidPlace CInvalidLetter CARGUMENTS c_law p_law : Addr}
theorem ok_Editor_replay (T : Txt K mg CText CPart CCounter CEditor CKeyReader CTextError CInvalidStep CTooLong CInvalidPlace CInvalidLetter CARGUMENTS c_law p_law w) : COk P w K mg base CX0 8 CEditor "replay" (sp_Editor_replay0 K CText CPart CEditor) := by
  refine T.d_Editor_replay.ok sc_Editor_replay (fun vs H Q E h => ?len) (fun f cdv A outer s H vs Q E hr h => ?_)
  case len => obtain ⟨t, rs, ss, l, rfl, _⟩ := h; rfl
  · obtain ⟨t, rs, ss, l, rfl, ht, hs, ok, few, hl, k⟩ := h
    refine ⟨_, (pss_cons (ps_set (i := 3) sc_Editor_replay.nd rfl (Or.inl rfl) (pe_ks (pv 0) (ok_Editor_init (K := K) T) (hr.mono (by decide)) pass0 (pv 1)))
    (pss_cons (ps_expr (pe_mS (K := K) rfl (pv 3) T.cEditor (ok_Editor_apply (K := K) T) (hr.mono (by decide)) pass0 (pv 2)))
    (pss_one (ps_ret (pv 3))))), ?_⟩
    refine rd_startE (show start N_Editor_replay [.ref CEditor, .ref t, .ref l] = [some (.ref CEditor), some (.ref t), some (.ref l), none] from rfl) ?_
    walk_at "rd_Fa"
    refine rd_mkS (.inl ht) (rd_mkEd hs ok few fun x H1 nx S1 ed => ?_)
    walk_at "rd_Fa"
    refine rd_mS ?_
    walk_at "rd_Fa"
    refine ⟨ed.insM, fun H2 S2 => ?_⟩
    walk_at "rd_Fa"
    have S02 : Same H H2 := Same.trans S1 S2
    refine ⟨Same.refl _, l, [], rfl, hl.imp (Same.tup S02) (Same.seq S02), ?_⟩
    refine ⟨[.ref x], [], rfl, rfl, by rw [sizeLine_eq]; decide, fun p np => ?_⟩
    have S3 : Same H2 (upd H2 p (.tup [])) := Same.new (Same.refl _) np
    refine ⟨x, p, ss, [], [], rfl, (ed.same S2).same S3, SqT.of upd_same, fun H4 l4 S4 e4 => ?_⟩
    walk_at "rd_Fa"
    exact k H4 x (Same.trans S02 (Same.trans S3 S4)) nx (((ed.same S2).same S3).same S4)
end
local macro_rules | `(tactic| walk_at "rd1_edit5") => `(tactic| walk_at "rd1_Fa")
local macro_rules | `(tactic| walk_at "rd_edit5") => `(tactic| repeat walk_at "rd1_edit5")
local macro_rules | `(tactic| walk_at "rdS_edit5") => `(tactic| repeat ((fail_if_success with_reducible show tIfS _ _ _ _ _ _); walk_at "rd1_edit5"))
local macro_rules | `(tactic| walk_at "rd1_edit5") => `(tactic| first
  | with_reducible refine rd_gthen ?_ | with_reducible refine rd_gplain ?_ | with_reducible refine rd_g0 ?_ | with_reducible refine rd_gfor ?_ | with_reducible refine rd_try0 ?_)
section
variable {P : Program} {w : World} {K : PySem.W.Frag} {mg : Str → Option Value} {base : Heap} {CText CPart CCounter CEditor CKeyReader CTextError CInvalidStep CTooLong CInvalidPlace CInvalidLetter CARGUMENTS c_law p_law : Addr}
theorem ok_Editor_sizes_after (T : Txt K mg CText CPart CCounter CEditor CKeyReader CTextError CInvalidStep CTooLong CInvalidPlace CInvalidLetter CARGUMENTS c_law p_law w) : GMOk P w K mg base 66 CEditor "sizes_after" (spStarG 1 (spg_Editor_sizes_after K CText CPart CEditor)) := by
  refine T.d_Editor_sizes_after.gen sc_Editor_sizes_after (fun f cdv A outer s H vs Q E pn hr h => ?_)
  · obtain ⟨e, m, rs, os, ss, ds, us, rfl, ed, hm, hs, okb, hl, k⟩ := h
    obtain ⟨i, ed, rfl, rfl, rfl⟩ := ed
    refine ⟨_, (gss_cons (gs_ps (ps_set (i := 2) sc_Editor_sizes_after.nd rfl (Or.inl rfl) (pe_k0 (ok_Editor_init (K := K) T) (hr.mono (by decide)) T.g_Editor pass0)))
    (gss_cons (gs_ps (ps_fld (pv 2) (pe_fldK (K := K) rfl (pv 0) (by rfl)) rfl))
    (gss_cons (gs_ps (ps_for owns_gcx rfl (pi_enumT T.n_enumerate (pa_cons (pv 1) pa_nil)) (pg_tupK (K := K) (n := 2) rfl rfl (pgs_cons (pg_name (i := 3) sc_Editor_sizes_after.nd rfl (Or.inl rfl)) (pgs_cons (pg_name (i := 4) sc_Editor_sizes_after.nd rfl (Or.inl rfl)) pgs_nil))) (pss_one (ps_if (pt_not (pt_val (pe_g (ok_is_operation (K := K) T) (hr.mono (by decide)) pass0 (pa_cons (pv 4) pa_nil)))) (pss_one ps_never)
    pss_nil))))
    (gss_cons (gs_for owns_gcx rfl (pi_tupK (K := K) rfl (pv 1)) (pg_name (i := 4) sc_Editor_sizes_after.nd rfl (Or.inl rfl)) (gss_cons (gs_ps (ps_expr (pe_m (pv 2) T.cEditor (ok_Editor_execute (K := K) T) (hr.mono (by decide)) pass0 (pa_cons (pv 4) pa_nil))))
    (gss_cons (gs_yield (pe_p (pe_fldK (K := K) rfl (pv 2) (by rfl)) T.cText (ok_Text_size (K := K) T) (hr.mono (by decide)) pass0))
    gss_nil)))
    gss_nil)))), ?_⟩
    refine rd_gstart (show start N_Editor_sizes_after [.ref e, .ref m] = [some (.ref e), some (.ref m), none, none, none] from rfl) ?_
    have rl : rs.length ≤ 10000 := by rw [hs.1]; exact hl
    walk_at "rd_edit5"
    refine rd_mkEd (rs := []) (ss := []) ⟨rfl, fun j s h => by simp at h⟩ trivial (by decide) fun x H1 nx S1 edx => ?_
    obtain ⟨ix, edx, ex1, ex2, ex3⟩ := edx
    have ed1 := ed.same S1
    walk_at "rd_edit5"
    refine rd_fld_at ed1.ins T.cEditor T.na_Editor_present edF_present ?_
    walk_at "rd_edit5"
    refine rd_edset edx.ins T.cEditor T.na_Editor_present edF_len fun H2 b2 e2 => ?_
    rw [edF_put_p] at e2
    have m2 : Km CEditor [] H1 H2 := Km.but b2 edx.ins
    have edx2 : EdAt K CText CPart CEditor H2 x i.ss [] [] := ⟨{ ix with p := i.p, ss := i.ss }, ⟨e2, ed1.tx.km T.ne_Text_Editor T.ne_Part_Editor m2, m2.tup edx.dn, edx.de.km T.ne_Text_Editor T.ne_Part_Editor m2, m2.tup edx.un, edx.ue.km T.ne_Text_Editor T.ne_Part_Editor m2⟩, rfl, ex2, ex3⟩
    have S2 : Same H H2 := fun b o q => b2 b o (ne_of_none q nx) (S1 _ _ q)
    walk_at "rd_edit5"
    refine ⟨m, rs, rfl, Same.tup S2 hm, for_enumT (xs := rs) (fun j σ H' => ∃ v3 v4, σ = [some (.ref e), some (.ref m), some (.ref x), v3, v4] ∧ Same H2 H')
      ⟨_, _, rfl, Same.refl _⟩ (fun j σ H' _ ⟨_, _, _, S⟩ => Same.tup S (Same.tup S2 hm)) ?_ ?_⟩
    · rintro j v' tu σ H3 hv' ⟨v3, v4, rfl, S3⟩ hT
      have hi : j < os.length := by rw [← hs.1]; exact (List.getElem?_eq_some_iff.mp hv').1
      obtain ⟨v0, ev, oa, rfl, hq⟩ := hs.2 j _ (List.getElem?_eq_getElem hi)
      rw [hv'] at ev; cases ev
      refine rd_gtup (SqT.of upd_same) rfl ?_
      have S4 : Same H3 (upd H3 tu (.tup [.int (j : Nat), .ref oa])) := Same.new (Same.refl _) hT
      revert S4
      generalize upd H3 tu _ = H4
      intro S4
      walk_at "rd_edit5"
      refine ⟨_, rfl, .inr (.inr ⟨oa, _, rfl, Same.tup S4 (Same.tup S3 (Same.tup S2 hq)), sml_op (okB_at okb (List.getElem?_eq_getElem hi)), form_op, fun H5 S5 => ?_⟩)⟩
      rw [isOp_op]
      walk_at "rd_edit5"
      exact ⟨_, _, rfl, Same.trans S3 (Same.trans S4 S5)⟩
    · rintro σ H3 ⟨v3, v4, rfl, S3⟩
      have S03 : Same H H3 := Same.trans S2 S3
      walk_at "rd_edit5"
      refine ⟨⟨_, Same.tup S03 hm⟩, ?_⟩
      refine gfor_tup (xs := rs) (fun j ys σ H' => ∃ v3 v4, σ = [some (.ref e), some (.ref m), some (.ref x), v3, v4] ∧ ys = natV (szB i.ss (os.take j)) ∧ Same H H' ∧ EdAt K CText CPart CEditor H' x (runB i.ss (os.take j)) (entsB i.ss (os.take j)) [])
        ⟨_, _, rfl, rfl, S03, edx2.same S3⟩ (fun j ys σ H' _ ⟨_, _, _, _, S, _⟩ => Same.tup S hm) ?_ ?_
      · rintro j v' ys σ H4 hv' ⟨v3, v4, rfl, rfl, S4, ed4⟩
        have hi : j < os.length := by rw [← hs.1]; exact (List.getElem?_eq_some_iff.mp hv').1
        obtain ⟨v0, ev, oa, rfl, hq⟩ := hs.2 j _ (List.getElem?_eq_getElem hi)
        rw [hv'] at ev; cases ev
        have oko := okB_at okb (List.getElem?_eq_getElem hi)
        have tk : os.take (j + 1) = os.take j ++ [os[j]] := by rw [List.take_succ, List.getElem?_eq_getElem hi]; rfl
        walk_at "rd_edit5"
        refine ⟨ed4.insM, ?_⟩
        walk_at "rd_edit5"
        refine ⟨x, oa, opV os[j], _, _, _, rfl, ed4, Same.tup S4 hq, sml_op oko, isOp_op, by rw [entsB_len, List.length_take]; omega, exOut_ok oko fun H5 b5 ed5 => ?_⟩
        have S5 : Same H H5 := fun b o q => b5 b o (ne_of_none q nx) (S4 _ _ q)
        obtain ⟨iy, edy, ey1, ey2, ey3⟩ := id ed5
        have Ty := edy.tx
        walk_at "rd_edit5"
        refine rd_gyield (by rw [natV_len, szB_len, List.length_take, sizeLine_eq]; omega) ?_
        walk_at "rd_edit5"
        refine rd_fld_at edy.ins T.cEditor T.na_Editor_present edF_present ?_
        walk_at "rd_edit5"
        refine ⟨_, _, rfl, ?_, S5, ?_⟩
        · rw [tk, szB_snoc, natV_snoc, ey1]
        · rw [tk, runB_snoc, entsB_snoc]; exact ed5
      · rintro ys σ H4 ⟨v3, v4, rfl, rfl, S4, ed4⟩
        rw [List.take_of_length_le (Nat.le_of_eq hs.1.symm)]
        walk_at "rd_edit5"
        exact k H4 S4
end
section
variable {P : Program} {w : World} {K : PySem.W.Frag} {mg : Str → Option Value} {base : Heap} {CText CPart CCounter CEditor CKeyReader CTextError CInvalidStep CTooLong CInvalidPlace CInvalidLetter CARGUMENTS c_law p_law : Addr}
theorem ok_x_law_word (T : Txt K mg CText CPart CCounter CEditor CKeyReader CTextError CInvalidStep CTooLong CInvalidPlace CInvalidLetter CARGUMENTS c_law p_law w) : GOk P w K mg base CX0 3 "_law_word" (sp_x_law_wordD K) := by
  refine T.d_x_law_word.ok sc_x_law_word (fun vs H Q E h => ?len) (fun f cdv A outer s H vs Q E hr h => ?_)
  case len => obtain ⟨r, rfl, _⟩ := h; rfl
  · obtain ⟨r, rfl, row, k⟩ := h
    refine ⟨_, (pss_one (ps_ret (pe_joinK (K := K) rfl pe_str (pe_lc (own := [("_law_k", 1)]) rfl sc_x_law_word.nd (pi_range1 rfl T.n_range (pa_cons (pe_op (addK (K := K) rfl) pe_int (pe_g (ok_x_law_next (K := K) T) (hr.mono (by decide)) pass0 (pa_cons (pv 0) (pa_cons pe_int pa_nil)))) pa_nil)) (blkOk_by (own := [("_law_k", 1)]) (N := N_x_law_word) (sc := (defScope s_x_law_word)) (by first | decide +kernel | rfl)) (fun _ _ _ _ _ => (pg_name (i := 1) sc_x_law_word.nd rfl (Or.inl rfl))) (fun _ _ _ _ _ => pts_nil) (fun _ _ _ _ _ => (pe_g (ok_x_law_pick (K := K) T) (hr.mono (by decide)) pass0 (pa_cons (pv 0) (pa_cons (pe_lst (pa_cons pe_str (pa_cons pe_str (pa_cons pe_str (pa_cons pe_str pa_nil))))) pa_nil)))))))), ?_⟩
    refine rd_startE (show start N_x_law_word [.ref r] = [some (.ref r), none] from rfl) ?_
    walk_at "rd_Fa"
    refine rd_nextD row (by decide) (by decide) fun n H1 hn k1 row1 => ?_
    walk_at "rd_Fa"
    refine ⟨_, rfl, by omega, by omega, fun D hD => lc_draw (n := n + 1) (it := fun i => .int (0 + (i : Nat))) (fun c : Nat => V.str ⟨#[c]⟩) (fun _ => rfl) (fun H' => by rw [show (1 + (n : Int)).toNat = n + 1 by omega]; exact plain_rng) hD (by rw [sizeLine_eq]; omega) (fun v => rfl) row1 (fun c => c = 97 ∨ c = 98 ∨ c = 99 ∨ c = 122) (fun i H2 Q2 hi k2 row2 q => ?_) fun H2 ss k2 row2 eD hl hs => ?_⟩
    · walk_at "rd_Fa"
      intro l3 H3 S3 e3 _
      walk_at "rd_Fa"
      refine rd_pick (row2.mono S3) (SqL.of e3) (nr_vals fun v hv => by simp at hv; rcases hv with rfl | rfl | rfl | rfl <;> rfl) (by decide) (by decide) fun j v H4 hv k4 row4 => ?_
      obtain ⟨c, rfl, hc⟩ := pick_abcz hv
      exact q c H4 hc ((Kp.same S3).trans k4) row4
    · refine rd_joinS (L := ss) eD (by omega) ?_
      refine k (mkS ss) H2 ⟨?_, ?_, ?_⟩ (k1.trans k2) row2
      · rw [mkS_len]; omega
      · rw [mkS_len]; omega
      · rw [tl_mkS]; exact hs
end
section
variable {P : Program} {w : World} {K : PySem.W.Frag} {mg : Str → Option Value} {base : Heap} {CText CPart CCounter CEditor CKeyReader CTextError CInvalidStep CTooLong CInvalidPlace CInvalidLetter CARGUMENTS c_law p_law : Addr}
theorem ok_x_law_drawn (T : Txt K mg CText CPart CCounter CEditor CKeyReader CTextError CInvalidStep CTooLong CInvalidPlace CInvalidLetter CARGUMENTS c_law p_law w) : GOk P w K mg base CX0 4 "_law_drawn" (sp_x_law_drawn K) := by
  refine T.d_x_law_drawn.ok sc_x_law_drawn (fun vs H Q E h => ?len) (fun f cdv A outer s H vs Q E hr h => ?_)
  case len => obtain ⟨r, tot, most, rfl, _⟩ := h; rfl
  · obtain ⟨r, tot, most, rfl, row, h1, h2, h3, k⟩ := h
    refine ⟨_, (pss_cons (ps_if (PW.pt (pw_or (pt_cmpR (eqK (K := K) rfl hr.units) (pv 1) pe_int (nomark _)) (pw_or1 (pt_cmpR (eqK (K := K) rfl hr.units) (pe_g (ok_x_law_next (K := K) T) (hr.mono (by decide)) pass0 (pa_cons (pv 0) (pa_cons pe_int pa_nil))) pe_int (nomark _))))) (pss_cons (ps_set (i := 3) sc_x_law_drawn.nd rfl (Or.inl rfl) (pe_g (ok_x_law_word (K := K) T) (hr.mono (by decide)) pass0 (pa_cons (pv 0) pa_nil)))
    (pss_one (ps_ret (pe_tup (pa_cons (pe_tup (pa_cons pe_str (pa_cons (pv 3) pa_nil))) (pa_cons (pe_op (addK (K := K) rfl) (pv 1) (pe_callB (lenK (K := K) rfl) rfl T.n_len (by decide +kernel) (pa_cons (pv 3) pa_nil))) pa_nil))))))
    pss_nil)
    (pss_cons (ps_set (i := 4) sc_x_law_drawn.nd rfl (Or.inl rfl) (pe_g (ok_x_law_next (K := K) T) (hr.mono (by decide)) pass0 (pa_cons (pv 0) (pa_cons (pv 1) pa_nil))))
    (pss_cons (ps_set (i := 5) sc_x_law_drawn.nd rfl (Or.inl rfl) (pe_op (addK (K := K) rfl) (pv 4) (pe_g (ok_x_law_next (K := K) T) (hr.mono (by decide)) pass0 (pa_cons (pv 0) (pa_cons (pe_callB (cMin2 rfl) rfl T.n_min (by decide +kernel) (pa_cons (pe_op op_sub (pv 1) (pv 4)) (pa_cons pe_int pa_nil))) pa_nil)))))
    (pss_cons (ps_set (i := 6) sc_x_law_drawn.nd rfl (Or.inl rfl) (pe_op (addK (K := K) rfl) pe_int (pe_g (ok_x_law_next (K := K) T) (hr.mono (by decide)) pass0 (pa_cons (pv 0) (pa_cons (pv 2) pa_nil)))))
    (pss_one (ps_ret (pe_tup (pa_cons (pe_tup (pa_cons pe_str (pa_cons (pv 4) (pa_cons (pv 5) (pa_cons (pv 6) pa_nil))))) (pa_cons (pe_op (addK (K := K) rfl) (pv 1) (pe_op oMul (pe_op (addK (K := K) rfl) (pe_op op_sub (pv 5) (pv 4)) pe_int) (pv 6))) pa_nil))))))))), ?_⟩
    refine rd_startE (show start N_x_law_drawn [.ref r, .int (tot : Nat), .int (most : Nat)] = [some (.ref r), some (.int (tot : Nat)), some (.int (most : Nat)), none, none, none, none] from rfl) ?_
    walk_at "rdS_Fa"
    refine rd_ifOr (fun Hc => Kp H Hc ∧ RowAt K Hc r) (fun Hc ⟨kc, rowc⟩ => ?_) (fun join => ?_)
    · walk_at "rd_Fa"
      refine rd_wordD rowc fun x H1 hx k1 row1 => ?_
      have wz : x.length ≤ sizeLine := str_small (Nat.le_trans hx.2.1 (by decide))
      walk_at "rd_Fa"
      intro q2 H2 S2 e2 _
      walk_at "rd_Fa"
      refine rd_len_str wz ?_
      walk_at "rd_Fa"
      intro q3 H3 S3 e3 _
      have hx2 := hx.2.1
      exact k q3 (.ref q2) (.wr x) H3 (kc.trans (k1.trans (Kp.same (S2.trans S3)))) (row1.mono (S2.trans S3)) (by rw [e3, Int.natCast_add]; rfl) (StepAt.wrN (S3 _ _ e2)) (hx.step (by decide)) (by show x.length ≤ _; omega) (okL1.wr hx)
    · walk_at "rd_Fa"
      refine rd_ite (fun h0 => join _ ⟨Kp.refl, row⟩) (fun h0 => ?_)
      walk_at "rd_Fa"
      refine rd_nextD row (by decide) (by decide) fun n H2 hn k2 row2 => ?_
      walk_at "rd_Fa"
      refine rd_ite (fun h2 => by have := join _ ⟨k2, row2⟩; rwa [if_pos rfl] at this) (fun h2 => ?_)
      clear join
      walk_at "rd_Fa"
      refine rd_nextD row2 (by omega) (by omega) fun fi H3 hfi k3 row3 => ?_
      walk_at "rd_Fa"
      rw [show (if (6 : Int) < ((tot : Nat) : Int) - (fi : Nat) then 6 else ((tot : Nat) : Int) - (fi : Nat)) = ((min 6 (tot - fi) : Nat) : Int) by split <;> omega]
      refine rd_nextD row3 (by omega) (by omega) fun la H4 hla k4 row4 => ?_
      walk_at "rd_Fa"
      refine rd_nextD row4 (by omega) (by omega) fun ti H5 hti k5 row5 => ?_
      walk_at "rd_Fa"
      rw [show ((fi : Nat) : Int) + (la : Nat) = ((fi + la : Nat) : Int) by omega, show (1 : Int) + (ti : Nat) = ((1 + ti : Nat) : Int) by omega]
      intro q6 H6 S6 e6 _
      walk_at "rd_Fa"
      have el : ((fi + la : Nat) : Int) - (fi : Nat) + 1 = ((fi + la - fi + 1 : Nat) : Int) := by omega
      rw [el]
      refine rd_mul_int (.inr ⟨by omega, by omega⟩) ?_
      rw [← Int.natCast_mul]
      walk_at "rd_Fa"
      intro q7 H7 S7 e7 _
      have hb : (fi + la - fi + 1) * (1 + ti) ≤ 6 * most := Nat.mul_le_mul (by omega) (by omega)
      exact k q7 (.ref q6) (.pa fi (fi + la) (1 + ti)) H7 (k2.trans (k3.trans (k4.trans (k5.trans (Kp.same (S6.trans S7)))))) (row5.mono (S6.trans S7)) (by rw [e7, Int.natCast_add]; rfl) (StepAt.paN (S7 _ _ e6)) ⟨by omega, by omega, by omega, by omega⟩ hb okL1.pa
end
section
variable {P : Program} {w : World} {K : PySem.W.Frag} {mg : Str → Option Value} {base : Heap} {CText CPart CCounter CEditor CKeyReader CTextError CInvalidStep CTooLong CInvalidPlace CInvalidLetter CARGUMENTS c_law p_law : Addr}
theorem ok_x_law_made (T : Txt K mg CText CPart CCounter CEditor CKeyReader CTextError CInvalidStep CTooLong CInvalidPlace CInvalidLetter CARGUMENTS c_law p_law w) : GOk P w K mg base CX0 9 "_law_made" (sp_x_law_made K CText CPart) := by
  refine T.d_x_law_made.ok sc_x_law_made (fun vs H Q E h => ?len) (fun f cdv A outer s H vs Q E hr h => ?_)
  case len => obtain ⟨a, ms, ss, rfl, _⟩ := h; rfl
  · obtain ⟨a, ms, ss, rfl, hq, hs, ok, few, k⟩ := h
    refine ⟨_, (pss_one (ps_ret (pe_p (pe_c (pe_glob (v := .ref CEditor) rfl T.g_Editor rfl) (ok_Editor_replay (K := K) T) (hr.mono (by decide)) pass0 (pa_cons (pe_callTy (tupK (K := K) rfl) rfl T.n_tuple (by decide +kernel) (pa_cons (pv 0) pa_nil)) (pa_cons (pe_lst pa_nil) pa_nil))) T.cEditor (ok_Editor_present_text (K := K) T) (hr.mono (by decide)) pass0))), ?_⟩
    refine rd_startE (show start N_x_law_made [.ref a] = [some (.ref a)] from rfl) ?_
    walk_at "rd_Fa"
    refine rd_tupLS hq hs fun p H1 S1 t1 => ?_
    walk_at "rd_Fa"
    intro l2 H2 S2 e2 _
    walk_at "rd_Fa"
    refine rd_edRep0 (t1.kp (.same S2)) e2 ok few fun H3 e S3 _ ed => ?_
    refine rd_edPT ed fun b TB => ?_
    exact k b H3 (S1.trans (S2.trans S3)) TB
end
section
variable {P : Program} {w : World} {K : PySem.W.Frag} {mg : Str → Option Value} {base : Heap} {CText CPart CCounter CEditor CKeyReader CTextError CInvalidStep CTooLong CInvalidPlace CInvalidLetter CARGUMENTS c_law p_law : Addr}
theorem ok_x_law_some (T : Txt K mg CText CPart CCounter CEditor CKeyReader CTextError CInvalidStep CTooLong CInvalidPlace CInvalidLetter CARGUMENTS c_law p_law w) : GOk P w K mg base CX0 5 "_law_some" (sp_x_law_some K) := by
  refine T.d_x_law_some.ok sc_x_law_some (fun vs H Q E h => ?len) (fun f cdv A outer s H vs Q E hr h => ?_)
  case len => obtain ⟨r, count, most, rfl, _⟩ := h; rfl
  · obtain ⟨r, count, most, rfl, row, h1, h2, h3, k⟩ := h
    refine ⟨_, (pss_cons (ps_set (i := 3) sc_x_law_some.nd rfl (Or.inl rfl) (pe_g (ok_x_law_word (K := K) T) (hr.mono (by decide)) pass0 (pa_cons (pv 0) pa_nil)))
    (pss_cons (ps_par (i := 4) (j := 5) rfl sc_x_law_some.nd rfl rfl (by decide) rfl rfl (pa_cons (pe_lst (pa_cons (pe_tup (pa_cons pe_str (pa_cons (pv 3) pa_nil))) pa_nil)) (pa_cons (pe_callB (lenK (K := K) rfl) rfl T.n_len (by decide +kernel) (pa_cons (pv 3) pa_nil)) pa_nil)) rfl)
    (pss_cons (ps_for PassesOwn.never rfl (pi_range1 rfl T.n_range (pa_cons (pe_g (ok_x_law_next (K := K) T) (hr.mono (by decide)) pass0 (pa_cons (pv 0) (pa_cons (pe_op (addK (K := K) rfl) (pv 1) pe_int) pa_nil))) pa_nil)) (pg_name (i := 6) sc_x_law_some.nd rfl (Or.inl rfl)) (pss_cons (ps_asg (pe_g (ok_x_law_drawn (K := K) T) (hr.mono (by decide)) pass0 (pa_cons (pv 0) (pa_cons (pv 5) (pa_cons (pv 2) pa_nil)))) (pg_tupK (K := K) (n := 2) rfl rfl (pgs_cons (pg_name (i := 7) sc_x_law_some.nd rfl (Or.inl rfl)) (pgs_cons (pg_name (i := 5) sc_x_law_some.nd rfl (Or.inl rfl)) pgs_nil))))
    (pss_one (ps_expr (pe_bmK (K := K) rfl PySem.F.plainAttrs_list PySem.F.slot_list_append PySem.F.type_list_append mt_append (pv 4) (pa_cons (pv 7) pa_nil))))))
    (pss_one (ps_ret (pv 4)))))), ?_⟩
    refine rd_startE (show start N_x_law_some [.ref r, .int (count : Nat), .int (most : Nat)] = [some (.ref r), some (.int (count : Nat)), some (.int (most : Nat)), none, none, none, none, none] from rfl) ?_
    walk_at "rd_Fa"
    refine rd_wordD row fun x H1 hx k1 row1 => ?_
    have wz : x.length ≤ sizeLine := str_small (Nat.le_trans hx.2.1 (by decide))
    walk_at "rd_Fa"
    intro q2 H2 S2 e2 _
    walk_at "rd_Fa"
    intro l H3 S3 e3 n3
    walk_at "rd_Fa"
    refine rd_len_str wz ?_
    walk_at "rd_Fa"
    have row2 := row1.mono S2
    have nl : r ≠ l := row2.ne n3
    have hx2 := hx.2.1
    have hx1 := hx.1
    refine rd_nextD (row2.mono S3) (by omega) (by omega) fun n H4 hn k4 row4 => ?_
    walk_at "rd_Fa"
    refine ⟨_, rfl, by omega, by omega, for_range (n := n) (fun i σ H' => ∃ v6 v7 ms ss, σ = [some (.ref r), some (.int (count : Nat)), some (.int (most : Nat)), some (.str x), some (.ref l), some (.int (sz ss : Nat)), v6, v7] ∧ Kp H2 H' ∧ RowAt K H' r ∧ H' l = some (.lst ms) ∧ StepsAt K H' ms ss ∧ okFrom 0 ss ∧ 1 ≤ sz ss ∧ ss.length = i + 1 ∧ sz ss ≤ (i + 1) * (6 * most) ∧ okLs ss)
      ⟨_, _, [.ref q2], [.wr x], by rfl, (Kp.same S3).trans k4, row4, k4 _ _ (nr_refs fun v hv => by rw [List.mem_singleton.mp hv]; rfl) e3, (StepsAt.one (StepAt.wrN (S3 _ _ e2))).kp k4, ⟨hx.step (by decide), by show 0 + x.length ≤ _; omega, trivial⟩, by show 1 ≤ x.length + 0; omega, rfl, by show x.length + 0 ≤ _; omega, okLs.snoc okLs.nil (okL1.wr hx)⟩ ?_ ?_⟩
    · rintro i σ H5 hi ⟨v6, v7, ms, ss, rfl, k5, row5, e5, st5, ok, z1, len, zb, L⟩
      have hB : (i + 1) * (6 * most) ≤ 21 * (6 * 1000000000) := Nat.mul_le_mul (by omega) (by omega)
      walk_at "rd_Fa"
      refine rd_drawn row5 (by omega) (by omega) (by omega) (by omega) fun p v s H6 k6 row6 e6 sa o1 le lt => ?_
      refine rd_gtup (SqT.of e6) rfl ?_
      walk_at "rd_Fa"
      have e7 := k6 _ _ (nr_refs st5.refs) e5
      refine rd_tyL (SqL.of e7) _ ?_
      walk_at "rd_Fa"
      refine rd_append e7 (by rw [sizeLine_eq, st5.1]; omega) ?_
      walk_at "rd_Fa"
      rw [Int.toNat_natCast] at o1
      have k7 : Kp H2 (upd H6 l (.lst (ms ++ [v]))) := Kp.mut (k5.trans k6) n3
      exact ⟨_, _, ms ++ [v], ss ++ [s], by rw [sz_snoc, Int.natCast_add]; rfl, k7, row2.via k7 row6 (upd_ne nl), upd_same, ((st5.kp k6).snoc sa).updL e7, ok_snoc ok o1 (by omega), by rw [sz_snoc]; omega, by rw [List.length_append, List.length_singleton, len], by rw [sz_snoc, Nat.succ_mul (i + 1)]; omega, L.snoc lt⟩
    · rintro σ H5 ⟨v6, v7, ms, ss, rfl, k5, row5, e5, st5, ok, z1, len, zb, L⟩
      walk_at "rd_Fa"
      exact k l ms ss H5 (k1.trans ((Kp.same S2).trans k5)) row5 e5 st5 ok z1 (by omega) (Nat.le_trans zb (Nat.mul_le_mul_right _ (by omega))) L
end
local macro_rules | `(tactic| walk_at "rd1_hid1") => `(tactic| walk_at "rd1_Fa")
local macro_rules | `(tactic| walk_at "rd_hid1") => `(tactic| repeat walk_at "rd1_hid1")
local macro_rules | `(tactic| walk_at "rdS_hid1") => `(tactic| repeat ((fail_if_success with_reducible show tIfS _ _ _ _ _ _); walk_at "rd1_hid1"))
local macro_rules | `(tactic| walk_at "rd1_hid1") => `(tactic| first
  | with_reducible refine rd_listRg ?_ | with_reducible refine rd_dsetd ?_
  | ((with_reducible refine' rd_insRd ?k1 ?k2 ?_); (case k1 => assumption); (case k2 => decide +kernel))
  | ((with_reducible refine' rd_rdHead ?k1 ?k2 ?_); (case k1 => assumption); (case k2 => omega)))
section
variable {P : Program} {w : World} {K : PySem.W.Frag} {mg : Str → Option Value} {base : Heap} {CText CPart CCounter CEditor CKeyReader CTextError CInvalidStep CTooLong CInvalidPlace CInvalidLetter CARGUMENTS c_law p_law : Addr}
theorem ok_KeyReader_init (T : Txt K mg CText CPart CCounter CEditor CKeyReader CTextError CInvalidStep CTooLong CInvalidPlace CInvalidLetter CARGUMENTS c_law p_law w) : KOk P w K mg base CX0 3 CKeyReader (sp_KeyReader_init K CText CPart CKeyReader) := by
  refine T.d_KeyReader_init.ok sc_KeyReader_init (fun vs H Q E h => ?len) (fun f cdv A outer s H vs Q E hr h => ?_)
  case len => obtain ⟨x, dx, t, ss, rfl, _⟩ := h; rfl
  · obtain ⟨x, dx, t, ss, rfl, hx, tx, k⟩ := h
    refine ⟨_, (pss_cons (ps_fld (pv 0) (pv 1) rfl)
    (pss_cons (ps_fld (pv 0) (pe_listRg rfl rfl T.n_list (prg_1 rfl T.n_range (pe_callB (lenK (K := K) rfl) rfl T.n_len (by decide +kernel) (pa_cons (pe_p (pv 1) T.cText (ok_Text_typed_keys (K := K) T) (hr.mono (by decide)) pass0) pa_nil)))) rfl)
    (pss_cons (ps_fld (pv 0) pe_dnewK rfl)
    (pss_one (ps_fld (pv 0) (pe_tup pa_nil) rfl))))), ?_⟩
    refine rd_startE (show start N_KeyReader_init [.ref x, .ref t] = [some (.ref x), some (.ref t)] from rfl) ?_
    have n1 := T.ne_Text_KeyReader
    have n2 := T.ne_Part_KeyReader
    have nk := tyL_small tx.ok
    have few := tx.few
    walk_at "rd_hid1"
    refine rd_edset hx T.cKeyReader T.na_KeyReader_source_text (by decide) fun H1 b1 e1 => ?_
    have tx1 := tx.km n1 n2 (Km.but (T := []) b1 hx)
    walk_at "rd_hid1"
    refine ⟨RgOk.of_le (by omega) (by omega) (by omega) (by omega), fun hl hh => ?_⟩
    rw [rgV_zero]
    have S2 : Same H1 (upd H1 hl (.lst (natV (List.range (tyL ss).length)))) := Same.new (Same.refl _) hh
    have e2 : upd H1 hl (.lst (natV (List.range (tyL ss).length))) hl = some (.lst (natV (List.range (tyL ss).length))) := upd_same
    revert S2 e2
    generalize upd H1 hl (.lst (natV (List.range (tyL ss).length))) = H2
    intro S2 e2
    walk_at "rd_hid1"
    refine rd_edset (S2 _ _ e1) T.cKeyReader T.na_KeyReader_heads (Nat.lt_of_le_of_lt (putF_len (k := 0) (by decide)) (by decide)) fun H3 b3 e3 => ?_
    walk_at "rd_hid1"
    refine fun d hd => ?_
    have S4 : Same H3 (upd H3 d (.dK [])) := Same.new (Same.refl _) hd
    have e4 : upd H3 d (.dK []) d = some (.dK []) := upd_same
    revert S4 e4
    generalize upd H3 d (.dK []) = H4
    intro S4 e4
    walk_at "rd_hid1"
    refine rd_edset (S4 _ _ e3) T.cKeyReader T.na_KeyReader_letters (Nat.lt_of_le_of_lt (putF_len (k := 1) (putF_len (k := 0) (by decide))) (by decide)) fun H5 b5 e5 => ?_
    walk_at "rd_hid1"
    intro q6 H6 S6 e6 _
    walk_at "rd_hid1"
    refine rd_edset (S6 _ _ e5) T.cKeyReader T.na_KeyReader_seen (Nat.lt_of_le_of_lt (putF_len (k := 2) (putF_len (k := 1) (putF_len (k := 0) (by decide)))) (by decide)) fun H7 b7 e7 => ?_
    rw [rdF_made] at e7
    walk_at "rd_hid1"
    have m67 : Km CKeyReader [] H6 H7 := Km.but b7 (S6 _ _ e5)
    have m47 : Km CKeyReader [] H4 H7 := ((Km.but b5 (S4 _ _ e3)).trans (.same S6)).trans m67
    have m27 : Km CKeyReader [] H2 H7 := ((Km.but b3 (S2 _ _ e1)).trans (.same S4)).trans m47
    have m17 : Km CKeyReader [] H1 H7 := (Km.same S2).trans m27
    have hx1 : hl ≠ x := fun z => by subst z; rw [hh] at e1; cases e1
    have hd1 : d ≠ x := fun z => by subst z; rw [hd] at e3; cases e3
    have hH : H hl = none := by
      cases e : H hl with
      | none => rfl
      | some o => rw [b1 _ _ hx1 e] at hh; cases hh
    have B3 : But x H H3 := (b1.trans (.same S2)).trans b3
    have dH : H d = none := by
      cases e : H d with
      | none => rfl
      | some o => rw [B3 _ _ hd1 e] at hd; cases hd
    have hdl : hl ≠ d := fun z => by subst z; rw [b3 _ _ hx1 e2] at hd; cases hd
    exact k _ hl d ((B3.trans (.same S4)).trans ((b5.trans (.same S6)).trans b7)) hH dH hx1 hd1 hdl ⟨⟨dx, t, q6, [], List.range (tyL ss).length⟩, e7, tx1.km n1 n2 m17, m27.li nr_natV e2, m47.keep _ _ id (fun _ z => nomatch z) (fun _ _ z => nomatch z) e4, m67.tup (SqT.of e6), .nil, Rt.start _, List.length_range, .nil⟩
end
section
variable {P : Program} {w : World} {K : PySem.W.Frag} {mg : Str → Option Value} {base : Heap} {CText CPart CCounter CEditor CKeyReader CTextError CInvalidStep CTooLong CInvalidPlace CInvalidLetter CARGUMENTS c_law p_law : Addr}
theorem ok_KeyReader_head (T : Txt K mg CText CPart CCounter CEditor CKeyReader CTextError CInvalidStep CTooLong CInvalidPlace CInvalidLetter CARGUMENTS c_law p_law w) : MOk P w K mg base CX0 1 CKeyReader "head" (sp_KeyReader_head K CText CPart CKeyReader) := by
  refine T.d_KeyReader_head.ok sc_KeyReader_head (fun vs H Q E h => ?len) (fun f cdv A outer s H vs Q E hr h => ?_)
  case len => obtain ⟨x, h', d, ss, f, ls, ob, k, rfl, _⟩ := h; rfl
  · obtain ⟨x, hl, d, ss, f, ls, ob, k0, rfl, ⟨i, r⟩, hk, q⟩ := h
    refine ⟨_, (pss_cons (ps_while PassesOwn.never (pt_cmpR (neK (K := K) rfl hr.units) (pe_ix (ixK (K := K) rfl) (pe_fldK (K := K) rfl (pv 0) (by rfl)) (pv 1) (fun _ _ => rfl)) (pv 1) (nomark _)) (pss_one (ps_set (i := 1) sc_KeyReader_head.nd rfl (Or.inl rfl) (pe_ix (ixK (K := K) rfl) (pe_fldK (K := K) rfl (pv 0) (by rfl)) (pv 1) (fun _ _ => rfl)))))
    (pss_one (ps_ret (pv 1)))), ?_⟩
    refine rd_startE (show start N_KeyReader_head [.ref x, .int (k0 : Nat)] = [some (.ref x), some (.int (k0 : Nat))] from rfl) ?_
    have hn := r.len
    have el := r.hl
    have nk := r.ok
    walk_at "rd_hid1"
    refine rd_while (fun m σ H' => ∃ k : Nat, σ = [some (.ref x), some (.int (k : Nat))] ∧ H' = H ∧ k < (tyL ss).length ∧ f k = f k0 ∧ m = k) ⟨k0, k0, rfl, rfl, hk, rfl, rfl⟩ ?_
    rintro m σ H' ⟨k, rfl, rfl, hk', ef, rfl⟩
    have hle := r.rt.le m (by omega)
    have hrt := r.rt.root m (by omega)
    have hst := r.rt.step m (by omega)
    walk_at "rd_hid1"
    refine rd_fld_at r.ins T.cKeyReader T.na_KeyReader_heads rdF_heads ?_
    walk_at "rd_hid1"
    rw [Int.toNat_natCast]
    obtain ⟨m', em⟩ : ∃ m', i.hs[m]?.getD 0 = m' := ⟨_, rfl⟩
    rw [em] at hle hrt hst ⊢
    refine rd_iteN (fun z => ?_) (fun z => ?_)
    · refine ⟨fun σ' H2 => ∃ m2, m2 < m ∧ ∃ k : Nat, σ' = [some (.ref x), some (.int (k : Nat))] ∧ H2 = H' ∧ k < (tyL ss).length ∧ f k = f k0 ∧ m2 = k, fun _ _ z => z, ?_⟩
      walk_at "rd_hid1"
      refine rd_fld_at r.ins T.cKeyReader T.na_KeyReader_heads rdF_heads ?_
      walk_at "rd_hid1"
      rw [Int.toNat_natCast, em]
      exact ⟨m', by omega, m', rfl, rfl, by omega, by omega, rfl⟩
    · walk_at "rd_hid1"
      have e : f m = m := hrt (by omega)
      rw [show m = f k0 by omega]
      exact q
end
section
variable {P : Program} {w : World} {K : PySem.W.Frag} {mg : Str → Option Value} {base : Heap} {CText CPart CCounter CEditor CKeyReader CTextError CInvalidStep CTooLong CInvalidPlace CInvalidLetter CARGUMENTS c_law p_law : Addr}
theorem ok_KeyReader_accept_letter (T : Txt K mg CText CPart CCounter CEditor CKeyReader CTextError CInvalidStep CTooLong CInvalidPlace CInvalidLetter CARGUMENTS c_law p_law w) : MOk P w K mg base CX0 2 CKeyReader "accept_letter" (sp_KeyReader_accept_letter K CText CPart CKeyReader) := by
  refine T.d_KeyReader_accept_letter.ok sc_KeyReader_accept_letter (fun vs H Q E h => ?len) (fun f cdv A outer s H vs Q E hr h => ?_)
  case len => obtain ⟨x, h', d, ss, f, ls, ob, k, c, rfl, _⟩ := h; rfl
  · obtain ⟨x, hl, d, ss, f, ls, ob, k, c, rfl, ⟨i, r⟩, hk, h1, h2, hc, q⟩ := h
    refine ⟨_, (pss_cons (ps_set (i := 3) sc_KeyReader_accept_letter.nd rfl (Or.inl rfl) (pe_m (pv 0) T.cKeyReader (ok_KeyReader_head (K := K) T) (hr.mono (by decide)) pass0 (pa_cons (pv 1) pa_nil)))
    (pss_cons (ps_if (pt_cmpR (neK (K := K) rfl hr.units) (pe_dget2 (hu_of hr) (pe_fldK (K := K) rfl (pv 0) (by rfl)) (pv 3) (pv 2) ⟨rfl, rfl, rfl, rfl⟩) (pv 2) (nomark _)) (pss_one ps_never)
    pss_nil)
    (pss_one (ps_dput (hu_of hr) (pe_fldK (K := K) rfl (pv 0) (by rfl)) (pv 3) (pv 2) rfl)))), ?_⟩
    refine rd_startE (show start N_KeyReader_accept_letter [.ref x, .int (k : Nat), .str ⟨#[c]⟩] = [some (.ref x), some (.int (k : Nat)), some (.str ⟨#[c]⟩), none] from rfl) ?_
    have nk := r.ok
    obtain ⟨f1, f2, f3⟩ := r.spec hk
    walk_at "rd_hid1"
    refine rd_dget2 ?_
    walk_at "rd_hid1"
    refine rd_fld_at r.ins T.cKeyReader T.na_KeyReader_letters rdF_letters ?_
    refine ⟨_, rfl, .inl ⟨_, .inl r.dl⟩, ?_⟩
    walk_at "rd_hid1"
    refine ⟨_, kvM_dget r.dl (f k), ?_⟩
    walk_at "rd_hid1"
    have e : ((gL ls (f k)).map fun c => V.str ⟨#[c]⟩).getD (.str ⟨#[c]⟩) = .str ⟨#[c]⟩ := by
      cases z : gL ls (f k) with
      | none => rfl
      | some c' => rw [hc c' z]; rfl
    rw [e]
    walk_at "rd_hid1"
    refine rd_dput ?_
    walk_at "rd_hid1"
    refine rd_fld_at r.ins T.cKeyReader T.na_KeyReader_letters rdF_letters ?_
    walk_at "rd_hid1"
    have ll := r.lok.len
    exact ⟨d, _, rfl, kvM_dput r.dl (by omega) (f k) c, q _ (But.at But.refl) ⟨i, r.put T.ne_Text_KeyReader T.ne_Part_KeyReader (by omega) h1 h2⟩⟩
end
section
variable {P : Program} {w : World} {K : PySem.W.Frag} {mg : Str → Option Value} {base : Heap} {CText CPart CCounter CEditor CKeyReader CTextError CInvalidStep CTooLong CInvalidPlace CInvalidLetter CARGUMENTS c_law p_law : Addr}
theorem ok_KeyReader_known_count (T : Txt K mg CText CPart CCounter CEditor CKeyReader CTextError CInvalidStep CTooLong CInvalidPlace CInvalidLetter CARGUMENTS c_law p_law w) : MOk P w K mg base CX0 2 CKeyReader "known_count" (sp_KeyReader_known_count K CText CPart CKeyReader) := by
  refine T.d_KeyReader_known_count.ok sc_KeyReader_known_count (fun vs H Q E h => ?len) (fun f cdv A outer s H vs Q E hr h => ?_)
  case len => obtain ⟨x, h', d, ss, f, ls, ob, rfl, _⟩ := h; rfl
  · obtain ⟨x, hl, d, ss, f, ls, ob, rfl, ⟨i, r⟩, q⟩ := h
    refine ⟨_, (pss_one (ps_ret (pe_callB (lenK (K := K) rfl) rfl T.n_len (by decide +kernel) (pa_cons (pe_lc (own := [("key", 1)]) rfl sc_KeyReader_known_count.nd (pi_range1 rfl T.n_range (pa_cons (pe_callB (lenK (K := K) rfl) rfl T.n_len (by decide +kernel) (pa_cons (pe_fldK (K := K) rfl (pv 0) (by rfl)) pa_nil)) pa_nil)) (blkOk_by (own := [("key", 1)]) (N := N_KeyReader_known_count) (sc := (defScope s_KeyReader_known_count)) (by first | decide +kernel | rfl)) (fun _ _ _ _ _ => (pg_name (i := 1) sc_KeyReader_known_count.nd rfl (Or.inl rfl))) (fun _ _ _ _ _ => (pts_one (pt_cmp (pc_din (hu_of hr) (pe_m (pv 0) T.cKeyReader (ok_KeyReader_head (K := K) T) (hr.mono (by decide)) pass0 (pa_cons (pv 1) pa_nil)) (pe_fldK (K := K) rfl (pv 0) (by rfl)))))) (fun _ _ _ _ _ => (pv 1))) pa_nil)))), ?_⟩
    refine rd_startE (show start N_KeyReader_known_count [.ref x] = [some (.ref x), none] from rfl) ?_
    have hn := r.len
    have el := r.hl
    have nk := r.ok
    walk_at "rd_hid1"
    refine rd_fld_at r.ins T.cKeyReader T.na_KeyReader_heads rdF_heads ?_
    walk_at "rd_hid1"
    rw [hn]
    refine ⟨_, rfl, by omega, by omega, fun D hD => lc_filt (f := fun k => .int (0 + (k : Nat))) (p := fun k => (gL ls (f k)).isSome) (n := (tyL ss).length) (it := fun i => .int (0 + (i : Nat))) (by rw [Int.toNat_natCast]; exact plain_rng) hD (by rw [sizeLine_eq]; omega) (fun _ => rfl) (fun k H1 R1 hk S1 qq => ?_) (fun k H1 Q1 hk hp S1 qq => ?_) fun H1 S1 eD => ?_⟩
    · have r1 := r.same S1
      rw [show (0 : Int) + (k : Nat) = (k : Nat) by omega]
      walk_at "rd_hid1"
      refine rd_din ?_
      walk_at "rd_hid1"
      refine rd_fld_at r1.ins T.cKeyReader T.na_KeyReader_letters rdF_letters ?_
      refine ⟨d, _, rfl, kvM_dget r1.dl (f k), ?_⟩
      walk_at "rd_hid1"
      rw [Option.isSome_map]
      exact qq _ (Same.refl _)
    · walk_at "rd_hid1"
      exact qq _ (Same.refl _)
    · walk_at "rd_hid1"
      refine rd_lenL eD ?_
      rw [List.length_map]
      exact q _ S1
end
section
variable {P : Program} {w : World} {K : PySem.W.Frag} {mg : Str → Option Value} {base : Heap} {CText CPart CCounter CEditor CKeyReader CTextError CInvalidStep CTooLong CInvalidPlace CInvalidLetter CARGUMENTS c_law p_law : Addr}
theorem ok_KeyReader_see (T : Txt K mg CText CPart CCounter CEditor CKeyReader CTextError CInvalidStep CTooLong CInvalidPlace CInvalidLetter CARGUMENTS c_law p_law w) : MOk P w K mg base CX0 4 CKeyReader "see" (sp_KeyReader_see K CText CPart CKeyReader) := by
  refine T.d_KeyReader_see.ok sc_KeyReader_see (fun vs H Q E h => ?len) (fun f cdv A outer s H vs Q E hr h => ?_)
  case len => obtain ⟨x, h', d, ss, f, ls, ob, p, c, rfl, _⟩ := h; rfl
  · obtain ⟨x, hl, d, ss, f, ls, ob, p, c, rfl, ⟨i, r⟩, hp, h1, h2, hc, ho, q⟩ := h
    refine ⟨_, (pss_cons (ps_set (i := 3) sc_KeyReader_see.nd rfl (Or.inl rfl) (pe_oF (K := K) rfl (pv 0) (ok_Text_call (K := K) T) (hr.mono (by decide)) pass0 (pa_cons (pv 1) pa_nil)))
    (pss_cons (ps_if (pt_not (pt_val (pe_g (ok_is_letter (K := K) T) (hr.mono (by decide)) pass0 (pa_cons (pv 2) pa_nil)))) (pss_one ps_never)
    pss_nil)
    (pss_cons (ps_expr (pe_m (pv 0) T.cKeyReader (ok_KeyReader_accept_letter (K := K) T) (hr.mono (by decide)) pass0 (pa_cons (pv 3) (pa_cons (pv 2) pa_nil))))
    (pss_cons (ps_fld (pv 0) (pe_tup (pa_starK (K := K) rfl (pe_fldK (K := K) rfl (pv 0) (by rfl)) (pa_cons (pe_tup (pa_cons pe_str (pa_cons (pv 1) (pa_cons (pv 2) pa_nil)))) pa_nil))) rfl)
    (pss_one (ps_ret (pe_m0 (pv 0) T.cKeyReader (ok_KeyReader_known_count (K := K) T) (hr.mono (by decide)) pass0))))))), ?_⟩
    refine rd_startE (show start N_KeyReader_see [.ref x, .int (p : Nat), .str ⟨#[c]⟩] = [some (.ref x), some (.int (p : Nat)), some (.str ⟨#[c]⟩), none] from rfl) ?_
    have nk := r.ok
    walk_at "rd_hid1"
    refine rd_oF ?_
    walk_at "rd_hid1"
    refine rd_fld_at r.ins T.cKeyReader T.na_KeyReader_source_text rdF_text ?_
    have fw := r.tx.few
    have kl := kat_lt r.tx.ok hp
    refine ⟨_, rfl, ?_⟩
    walk_at "rd_hid1"
    refine rd_oCall r.tx (by omega) (by omega) ?_
    rw [Int.toNat_natCast]
    walk_at "rd_hid1"
    refine rd_isLetter ⟨h1, h2⟩ ?_
    walk_at "rd_hid1"
    refine ⟨x, hl, d, ss, f, ls, ob, kat ss p, c, rfl, ⟨i, r⟩, kl, h1, h2, hc, fun H1 b1 ⟨j, r1⟩ => ?_⟩
    walk_at "rd_hid1"
    refine rd_fld_at r1.ins T.cKeyReader T.na_KeyReader_seen rdF_seen ?_
    refine ⟨j.s, j.sm, rfl, .inl r1.sn, ?_⟩
    walk_at "rd_hid1"
    intro q2 H2 S2 e2 _
    have r2 := r1.same S2
    have lo := r1.obs.1
    walk_at "rd_hid1"
    refine rd_new (by rw [sizeLine_eq, List.length_append, List.length_singleton]; omega) fun q3 H3 S3 e3 _ => ?_
    have r3 := r2.same S3
    walk_at "rd_hid1"
    refine rd_edset r3.ins T.cKeyReader T.na_KeyReader_seen rdF_len fun H4 b4 e4 => ?_
    rw [rdF_put] at e4
    have r4 := r3.seen T.ne_Text_KeyReader T.ne_Part_KeyReader b4 e4 (SqT.of e3) (r3.obs.snoc (o := .see p c) (SqT.of (S3 _ _ e2)))
    have B : Bt [x, hl, d] H H4 := ((Bt.but b1 (by simp)).trans (.same (S2.trans S3))).trans (Bt.but b4 (by simp))
    walk_at "rd_hid1"
    exact ⟨x, hl, d, ss, f, _, _, rfl, ⟨_, r4⟩, fun H5 S5 => q _ (B.trans (.same S5)) ⟨_, r4.same S5⟩⟩
end
section
variable {P : Program} {w : World} {K : PySem.W.Frag} {mg : Str → Option Value} {base : Heap} {CText CPart CCounter CEditor CKeyReader CTextError CInvalidStep CTooLong CInvalidPlace CInvalidLetter CARGUMENTS c_law p_law : Addr}
theorem ok_KeyReader_known_letters (T : Txt K mg CText CPart CCounter CEditor CKeyReader CTextError CInvalidStep CTooLong CInvalidPlace CInvalidLetter CARGUMENTS c_law p_law w) : POk P w K mg base CX0 2 CKeyReader "known_letters" (sp_KeyReader_known_letters K CText CPart CKeyReader) := by
  refine T.d_KeyReader_known_letters.ok sc_KeyReader_known_letters (fun vs H Q E h => ?len) (fun f cdv A outer s H vs Q E hr h => ?_)
  case len => obtain ⟨x, h', d, ss, f, ls, ob, rfl, _⟩ := h; rfl
  · obtain ⟨x, hl, d, ss, f, ls, ob, rfl, ⟨i, r⟩, q⟩ := h
    refine ⟨_, (pss_cons (ps_setLc (i := 1) (own := [("key", 2)]) rfl sc_KeyReader_known_letters.nd rfl rfl (sw_true rfl rfl rfl (by decide +kernel)) (pi_range1 rfl T.n_range (pa_cons (pe_callB (lenK (K := K) rfl) rfl T.n_len (by decide +kernel) (pa_cons (pe_fldK (K := K) rfl (pv 0) (by rfl)) pa_nil)) pa_nil)) (blkOk_by (own := [("key", 2)]) (N := N_KeyReader_known_letters) (sc := (defScope s_KeyReader_known_letters)) (by first | decide +kernel | rfl)) (fun _ _ _ _ _ => (pg_name (i := 2) sc_KeyReader_known_letters.nd rfl (Or.inl rfl))) (fun _ _ _ _ _ => pts_nil) (fun _ _ _ _ _ => (pe_tup (pa_cons (pv 2) (pa_cons (pe_m (pv 0) T.cKeyReader (ok_KeyReader_head (K := K) T) (hr.mono (by decide)) pass0 (pa_cons (pv 2) pa_nil)) pa_nil)))))
    (pss_one (ps_ret (pe_dc (own := [("key", 2), ("head", 3)]) rfl sc_KeyReader_known_letters.nd (pi_listK (K := K) rfl (pv 1)) (blkOk_by (own := [("key", 2), ("head", 3)]) (N := N_KeyReader_known_letters) (sc := (defScope s_KeyReader_known_letters)) (by first | decide +kernel | rfl)) (fun _ _ _ _ _ => (pg_tupK (K := K) (n := 2) rfl rfl (pgs_cons (pg_name (i := 2) sc_KeyReader_known_letters.nd rfl (Or.inl rfl)) (pgs_cons (pg_name (i := 3) sc_KeyReader_known_letters.nd rfl (Or.inl rfl)) pgs_nil)))) (fun _ _ _ _ _ => (pts_one (pt_cmp (pc_din (hu_of hr) (pv 3) (pe_fldK (K := K) rfl (pv 0) (by rfl)))))) (fun _ _ _ _ _ => (pv 2)) (fun _ _ _ _ _ => (pe_dget (hu_of hr) (pe_fldK (K := K) rfl (pv 0) (by rfl)) (pv 3) (fun _ _ => rfl))))))), ?_⟩
    refine rd_startE (show start N_KeyReader_known_letters [.ref x] = [some (.ref x), none, none, none] from rfl) ?_
    have hn := r.len
    have el := r.hl
    have nk := r.ok
    walk_at "rd_hid1"
    refine rd_fld_at r.ins T.cKeyReader T.na_KeyReader_heads rdF_heads ?_
    walk_at "rd_hid1"
    rw [hn]
    refine ⟨_, rfl, by omega, by omega, fun D hD => lc_rel (n := (tyL ss).length) (it := fun i => .int (0 + (i : Nat))) (by rw [Int.toNat_natCast]; exact plain_rng) hD (by rw [sizeLine_eq]; omega) (fun _ => rfl) (fun k v H' => ∃ p, v = .ref p ∧ H' p = some (.tup [.int (k : Nat), .int (f k : Nat)])) (fun k y H1 H2 l hk eD B st => ?_) (fun k H1 Q1 hk S1 qq => ?_) fun H1 ys S1 eD hyl ans => ?_⟩
    · obtain ⟨p, rfl, e⟩ := st
      exact ⟨p, rfl, B _ _ (fun z => by subst z; rw [eD] at e; cases e) e⟩
    · have r1 := r.same S1
      rw [show (0 : Int) + (k : Nat) = (k : Nat) by omega]
      walk_at "rd_hid1"
      intro p H2 S2 e2 _
      exact qq _ _ S2 ⟨p, rfl, e2⟩
    · walk_at "rd_hid1"
      refine rd_dc ?_
      walk_at "rd_hid1"
      have r1 := r.same S1
      refine ⟨⟨_, SqL.of eD⟩, fun D2 hD2 => dc_filtG (it := fun i => (ys[i]?).getD .non) (n := (tyL ss).length) (by rw [← hyl]; exact plain_list (SqL.of eD)) hD2 (by rw [sizeLine_eq]; omega)
        (fun k => [some (.ref x), some (.ref D), some (.int (k : Nat)), some (.int (f k : Nat))]) (fun _ => rfl) (fun k H2 R2 hk S2 q2 => ?_) (fun k => (Sum.inl ((k : Nat) : Int) : Key)) (fun k => .str ⟨#[(gL ls (f k)).getD 0]⟩) (fun k => (gL ls (f k)).isSome) (fun i j h1 h2 z => by have := Sum.inl.inj z; omega) (fun k H2 R2 hk S2 q2 => ?_) (fun k H2 Q2 hk hp S2 q2 => ?_) (fun k H2 Q2 hk hp S2 q2 => ?_) fun H2 S2 e2 => ?_⟩
      · obtain ⟨y, ey, p, rfl, ep⟩ := ans k hk
        rw [ey]
        refine rd_gtup (SqT.of (S2 _ _ ep)) rfl ?_
        walk_at "rd_hid1"
        exact q2
      · have r2 := r1.same S2
        walk_at "rd_hid1"
        refine rd_din ?_
        walk_at "rd_hid1"
        refine rd_fld_at r2.ins T.cKeyReader T.na_KeyReader_letters rdF_letters ?_
        refine ⟨d, _, rfl, kvM_dget r2.dl (f k), ?_⟩
        walk_at "rd_hid1"
        rw [Option.isSome_map]
        exact q2 _ (Same.refl _)
      · walk_at "rd_hid1"
        exact q2 _ (Same.refl _)
      · have r2 := r1.same S2
        walk_at "rd_hid1"
        refine rd_dget ?_
        walk_at "rd_hid1"
        refine rd_fld_at r2.ins T.cKeyReader T.na_KeyReader_letters rdF_letters ?_
        walk_at "rd_hid1"
        obtain ⟨c, hc⟩ := Option.isSome_iff_exists.mp hp
        refine ⟨d, .str ⟨#[c]⟩, rfl, ?_, ?_⟩
        · have := kvM_dget r2.dl (f k)
          rw [hc] at this
          exact this
        · have := q2 H2 (Same.refl _)
          rw [hc] at this
          exact this
      · refine q _ D2 (S1.trans S2) ?_ (by rw [knownL_kv]; exact e2)
        cases e : H D2 with
        | none => rfl
        | some o => rw [S1 _ _ e] at hD2; cases hD2
end
section
variable {P : Program} {w : World} {K : PySem.W.Frag} {mg : Str → Option Value} {base : Heap} {CText CPart CCounter CEditor CKeyReader CTextError CInvalidStep CTooLong CInvalidPlace CInvalidLetter CARGUMENTS c_law p_law : Addr}
theorem ok_KeyReader_observations (T : Txt K mg CText CPart CCounter CEditor CKeyReader CTextError CInvalidStep CTooLong CInvalidPlace CInvalidLetter CARGUMENTS c_law p_law w) : POk P w K mg base CX0 1 CKeyReader "observations" (sp_KeyReader_observations K CText CPart CKeyReader) := by
  refine T.d_KeyReader_observations.ok sc_KeyReader_observations (fun vs H Q E h => ?len) (fun f cdv A outer s H vs Q E hr h => ?_)
  case len => obtain ⟨x, h', d, ss, f, ls, ob, rfl, _⟩ := h; rfl
  · obtain ⟨x, hl, d, ss, f, ls, ob, rfl, ⟨i, r⟩, ho, q⟩ := h
    refine ⟨_, (pss_one (ps_ret (pe_callTy (listK (K := K) rfl) rfl T.n_list (by decide +kernel) (pa_cons (pe_fldK (K := K) rfl (pv 0) (by rfl)) pa_nil)))), ?_⟩
    refine rd_startE (show start N_KeyReader_observations [.ref x] = [some (.ref x)] from rfl) ?_
    walk_at "rd_hid1"
    refine rd_fld_at r.ins T.cKeyReader T.na_KeyReader_seen rdF_seen ?_
    walk_at "rd_hid1"
    refine rd_list_tup r.sn fun l hl' => ?_
    exact q _ l i.sm (Same.new (Same.refl _) hl') hl' upd_same (r.obs.mono (Same.new (Same.refl _) hl'))
end
section
variable {P : Program} {w : World} {K : PySem.W.Frag} {mg : Str → Option Value} {base : Heap} {CText CPart CCounter CEditor CKeyReader CTextError CInvalidStep CTooLong CInvalidPlace CInvalidLetter CARGUMENTS c_law p_law : Addr}
theorem ok_KeyReader_open_heads (T : Txt K mg CText CPart CCounter CEditor CKeyReader CTextError CInvalidStep CTooLong CInvalidPlace CInvalidLetter CARGUMENTS c_law p_law w) : MOk P w K mg base CX0 1 CKeyReader "open_heads" (sp_KeyReader_open_heads K CText CPart CKeyReader) := by
  refine T.d_KeyReader_open_heads.ok sc_KeyReader_open_heads (fun vs H Q E h => ?len) (fun f cdv A outer s H vs Q E hr h => ?_)
  case len => obtain ⟨x, h', d, ss, f, ls, ob, rfl, _⟩ := h; rfl
  · obtain ⟨x, hl, d, ss, f, ls, ob, rfl, ⟨i, r⟩, q⟩ := h
    refine ⟨_, (pss_one (ps_ret (pe_lc (own := [("key", 1)]) rfl sc_KeyReader_open_heads.nd (pi_range1 rfl T.n_range (pa_cons (pe_callB (lenK (K := K) rfl) rfl T.n_len (by decide +kernel) (pa_cons (pe_fldK (K := K) rfl (pv 0) (by rfl)) pa_nil)) pa_nil)) (blkOk_by (own := [("key", 1)]) (N := N_KeyReader_open_heads) (sc := (defScope s_KeyReader_open_heads)) (by first | decide +kernel | rfl)) (fun _ _ _ _ _ => (pg_name (i := 1) sc_KeyReader_open_heads.nd rfl (Or.inl rfl))) (fun _ _ _ _ _ => (pts_one (PW.pt (pw_and (pt_cmpR (eqK (K := K) rfl hr.units) (pe_ix (ixK (K := K) rfl) (pe_fldK (K := K) rfl (pv 0) (by rfl)) (pv 1) (fun _ _ => rfl)) (pv 1) (nomark _)) (pw_and1 (pt_cmp (pc_dnotin (hu_of hr) (pv 1) (pe_fldK (K := K) rfl (pv 0) (by rfl))))))))) (fun _ _ _ _ _ => (pv 1))))), ?_⟩
    refine rd_startE (show start N_KeyReader_open_heads [.ref x] = [some (.ref x), none] from rfl) ?_
    have hn := r.len
    have el := r.hl
    have nk := r.ok
    walk_at "rd_hid1"
    refine rd_fld_at r.ins T.cKeyReader T.na_KeyReader_heads rdF_heads ?_
    walk_at "rd_hid1"
    rw [hn]
    refine ⟨_, rfl, by omega, by omega, fun D hD => lc_filt (f := fun k => .int (k : Nat)) (p := fun k => decide (f k = k) && (gL ls k).isNone) (n := (tyL ss).length) (it := fun i => .int (0 + (i : Nat))) (by rw [Int.toNat_natCast]; exact plain_rng) hD (by rw [sizeLine_eq]; omega) (fun _ => rfl) (fun k H1 R1 hk S1 qq => ?_) (fun k H1 Q1 hk hp S1 qq => ?_) fun H1 S1 eD => ?_⟩
    · have r1 := r.same S1
      have el1 := r1.hl
      have hle := r.rt.le k (by omega)
      have hrt := r.rt.root k (by omega)
      obtain ⟨f1, f2, f3⟩ := r.spec hk
      rw [show (0 : Int) + (k : Nat) = (k : Nat) by omega]
      walk_at "rd_hid1"
      refine rd_fld_at r1.ins T.cKeyReader T.na_KeyReader_heads rdF_heads ?_
      walk_at "rd_hid1"
      rw [Int.toNat_natCast]
      refine rd_ite (fun h => ?_) (fun h => ?_)
      · have fk := hrt (by omega)
        walk_at "rd_hid1"
        refine rd_dnotin ?_
        walk_at "rd_hid1"
        refine rd_fld_at r1.ins T.cKeyReader T.na_KeyReader_letters rdF_letters ?_
        refine ⟨d, _, rfl, kvM_dget r1.dl k, ?_⟩
        walk_at "rd_hid1"
        have := qq _ (Same.refl _)
        rw [decide_eq_true fk, Bool.true_and] at this
        rw [show (!((gL ls k).map fun c => V.str ⟨#[c]⟩).isSome) = (gL ls k).isNone by cases gL ls k <;> rfl]
        exact this
      · have fk : f k ≠ k := fun z => by rw [z] at f2; omega
        have := qq _ (Same.refl _)
        rw [decide_eq_false fk, Bool.false_and] at this
        exact this
    · rw [show (0 : Int) + (k : Nat) = (k : Nat) by omega]
      walk_at "rd_hid1"
      exact qq _ (Same.refl _)
    · exact q _ _ S1 hD eD
end
section
variable {P : Program} {w : World} {K : PySem.W.Frag} {mg : Str → Option Value} {base : Heap} {CText CPart CCounter CEditor CKeyReader CTextError CInvalidStep CTooLong CInvalidPlace CInvalidLetter CARGUMENTS c_law p_law : Addr}
theorem ok_KeyReader_first_place (T : Txt K mg CText CPart CCounter CEditor CKeyReader CTextError CInvalidStep CTooLong CInvalidPlace CInvalidLetter CARGUMENTS c_law p_law w) : MOk P w K mg base CX0 3 CKeyReader "first_place" (sp_KeyReader_first_place K CText CPart CKeyReader) := by
  refine T.d_KeyReader_first_place.ok sc_KeyReader_first_place (fun vs H Q E h => ?len) (fun f cdv A outer s H vs Q E hr h => ?_)
  case len => obtain ⟨x, h', d, ss, f, ls, ob, k, rfl, _⟩ := h; rfl
  · obtain ⟨x, hl, d, ss, f, ls, ob, k, rfl, ⟨i, r⟩, hk, q⟩ := h
    refine ⟨_, (pss_cons (ps_set (i := 2) sc_KeyReader_first_place.nd rfl (Or.inl rfl) pe_int)
    (pss_cons (ps_for PassesOwn.never rfl (pi_tupK (K := K) rfl (pe_p (pe_fldK (K := K) rfl (pv 0) (by rfl)) T.cText (ok_Text_steps (K := K) T) (hr.mono (by decide)) pass0)) (pg_name (i := 3) sc_KeyReader_first_place.nd rfl (Or.inl rfl)) (pss_one (ps_if (pt_cmpR (eqK (K := K) rfl hr.units) (pe_ix (ixK (K := K) rfl) (pv 3) pe_int (fun _ _ => rfl)) pe_str (nomark _)) (pss_cons (ps_if (pt_cmpR op_lt (pv 1) (pe_callB (lenK (K := K) rfl) rfl T.n_len (by decide +kernel) (pa_cons (pe_ix (ixK (K := K) rfl) (pv 3) pe_int (fun _ _ => rfl)) pa_nil)) (nomark _)) (pss_one (ps_ret (pe_op (addK (K := K) rfl) (pv 2) (pv 1))))
    pss_nil)
    (pss_cons (ps_aug (i := 1) sc_KeyReader_first_place.nd rfl (Or.inl rfl) (pe_callB (lenK (K := K) rfl) rfl T.n_len (by decide +kernel) (pa_cons (pe_ix (ixK (K := K) rfl) (pv 3) pe_int (fun _ _ => rfl)) pa_nil)) ip_sub)
    (pss_one (ps_aug (i := 2) sc_KeyReader_first_place.nd rfl (Or.inl rfl) (pe_callB (lenK (K := K) rfl) rfl T.n_len (by decide +kernel) (pa_cons (pe_ix (ixK (K := K) rfl) (pv 3) pe_int (fun _ _ => rfl)) pa_nil)) ip_add))))
    (pss_one (ps_aug (i := 2) sc_KeyReader_first_place.nd rfl (Or.inl rfl) (pe_op oMul (pe_op (addK (K := K) rfl) (pe_op op_sub (pe_ix (ixK (K := K) rfl) (pv 3) pe_int (fun _ _ => rfl)) (pe_ix (ixK (K := K) rfl) (pv 3) pe_int (fun _ _ => rfl))) pe_int) (pe_ix (ixK (K := K) rfl) (pv 3) pe_int (fun _ _ => rfl))) ip_add)))))
    (pss_one (ps_ret (pv 2))))), ?_⟩
    refine rd_startE (show start N_KeyReader_first_place [.ref x, .int (k : Nat)] = [some (.ref x), some (.int (k : Nat)), none, none] from rfl) ?_
    have nk := r.ok
    walk_at "rd_hid1"
    refine rd_fld_at r.ins T.cKeyReader T.na_KeyReader_source_text rdF_text ?_
    have few := r.tx.few
    have ok := r.tx.ok
    have sle := sz_le ok
    have tx := r.tx
    walk_at "rd_hid1"
    intro sp ⟨ms, h1, h2⟩
    refine ⟨_, rfl, ⟨_, h1⟩, for_tup (xs := ms) (fun j σ H' => ∃ v3, ∃ n k' : Nat, σ = [some (.ref x), some (.int (k' : Nat)), some (.int (n : Nat)), v3] ∧ H' = H ∧ k' < (tyL (ss.drop j)).length ∧ fstP ss k = n + fstP (ss.drop j) k') ⟨_, 0, k, rfl, rfl, by simpa using hk, by simp⟩ (fun j σ H' _ ⟨_, _, _, _, e, _⟩ => e ▸ h1) ?_ ?_⟩
    · rintro j v σ H' hv ⟨v3, n, k', rfl, rfl, hk', hf⟩
      obtain ⟨s', hs, a', rfl, hq⟩ := h2.at hv
      obtain ⟨ok', ok2⟩ := ok_at ok hs
      have ed : ss.drop j = s' :: ss.drop (j + 1) := by
        have hl := (List.getElem?_eq_some_iff.mp hs)
        obtain ⟨h3, h4⟩ := hl
        rw [List.drop_eq_getElem_cons h3, h4]
      rw [ed] at hk' hf
      walk_at "rd_hid1"
      cases s' with
      | wr w =>
        have wz : w.length ≤ sizeLine := str_small ok'.2.1
        have hl : (tyL (.wr w :: ss.drop (j + 1))).length = w.length + (tyL (ss.drop (j + 1))).length := by
          rw [show tyL (.wr w :: ss.drop (j + 1)) = ty1 (.wr w) ++ tyL (ss.drop (j + 1)) from rfl, List.length_append]; rfl
        rw [hl] at hk'
        have hf' : fstP ss k = n + (if k' < w.length then k' else w.length + fstP (ss.drop (j + 1)) (k' - w.length)) := hf
        refine rd_ixT ?_ hq rfl
        walk_at "rd_hid1"
        refine rd_ixT ?_ hq rfl
        walk_at "rd_hid1"
        refine rd_len_str wz ?_
        walk_at "rd_hid1"
        refine rd_ite (fun h3 => ?_) (fun h3 => ?_)
        · rw [if_pos (by omega)] at hf'
          walk_at "rd_hid1"
          have := q _ (Same.refl _)
          rw [hf', show ((n + k' : Nat) : Int) = (n : Int) + k' by omega] at this
          exact this
        · rw [if_neg (by omega)] at hf'
          walk_at "rd_hid1"
          refine rd_ixT ?_ hq rfl
          walk_at "rd_hid1"
          refine rd_len_str wz ?_
          walk_at "rd_hid1"
          refine rd_ixT ?_ hq rfl
          walk_at "rd_hid1"
          refine rd_len_str wz ?_
          walk_at "rd_hid1"
          exact ⟨_, n + w.length, k' - w.length, by rw [show ((k' - w.length : Nat) : Int) = (k' : Int) - (w.length : Nat) by omega, show ((n + w.length : Nat) : Int) = (n : Int) + (w.length : Nat) by omega]; rfl, rfl, by omega, by rw [hf', Nat.add_assoc]⟩
      | pa f1 l1 t1 =>
        have hf' : fstP ss k = n + ((l1 + 1 - f1) * t1 + fstP (ss.drop (j + 1)) k') := hf
        refine rd_ixT ?_ hq rfl
        walk_at "rd_hid1"
        have l1ok : (l1 + 1 - f1) * t1 ≤ 1000000000000000000 := by
          have : len1 (.pa f1 l1 t1) = (l1 - f1 + 1) * t1 := rfl
          have h5 := ok'.1
          rw [this, show l1 - f1 + 1 = l1 + 1 - f1 by omega] at ok2
          omega
        obtain ⟨h5, h6, h7, h8⟩ := ok'
        have h9 : l1 < 1000000000000000000 := by
          have := sz_le (ok_take (j := j) ok)
          omega
        refine rd_ixT ?_ hq rfl
        walk_at "rd_hid1"
        refine rd_ixT ?_ hq rfl
        walk_at "rd_hid1"
        refine rd_ixT ?_ hq rfl
        walk_at "rd_hid1"
        refine rd_mul_int (Or.inl ⟨by omega, by omega⟩) ?_
        walk_at "rd_hid1"
        refine ⟨some (.ref a'), n + (l1 + 1 - f1) * t1, k', ?_, rfl, by simpa [tyL, ty1] using hk', by rw [hf', Nat.add_assoc]⟩
        rw [show (((n + (l1 + 1 - f1) * t1 : Nat)) : Int) = (n : Int) + ((l1 : Int) - f1 + 1) * t1 by
          rw [Int.natCast_add, Int.natCast_mul, show ((l1 + 1 - f1 : Nat) : Int) = (l1 : Int) - f1 + 1 by omega]]
        rfl
    · rintro σ H' ⟨v3, n, k', rfl, rfl, hk', hf⟩
      rw [List.drop_of_length_le (by rw [h2.1]; exact Nat.le_refl _)] at hk'
      exact absurd hk' (by simp [tyL])
end
section
variable {P : Program} {w : World} {K : PySem.W.Frag} {mg : Str → Option Value} {base : Heap} {CText CPart CCounter CEditor CKeyReader CTextError CInvalidStep CTooLong CInvalidPlace CInvalidLetter CARGUMENTS c_law p_law : Addr}
theorem ok_KeyReader_fewest_places (T : Txt K mg CText CPart CCounter CEditor CKeyReader CTextError CInvalidStep CTooLong CInvalidPlace CInvalidLetter CARGUMENTS c_law p_law w) : MOk P w K mg base CX0 4 CKeyReader "fewest_places" (sp_KeyReader_fewest_places K CText CPart CKeyReader) := by
  refine T.d_KeyReader_fewest_places.ok sc_KeyReader_fewest_places (fun vs H Q E h => ?len) (fun f cdv A outer s H vs Q E hr h => ?_)
  case len => obtain ⟨x, h', d, ss, f, ls, ob, rfl, _⟩ := h; rfl
  · obtain ⟨x, hl, d, ss, f, ls, ob, rfl, ⟨i, r⟩, q⟩ := h
    refine ⟨_, (pss_cons (ps_set (i := 1) sc_KeyReader_fewest_places.nd rfl (Or.inl rfl) (pe_lst pa_nil))
    (pss_cons (ps_for PassesOwn.never rfl (pi_listK (K := K) rfl (pe_m0 (pv 0) T.cKeyReader (ok_KeyReader_open_heads (K := K) T) (hr.mono (by decide)) pass0)) (pg_name (i := 2) sc_KeyReader_fewest_places.nd rfl (Or.inl rfl)) (pss_one (ps_expr (pe_bmK (K := K) rfl PySem.F.plainAttrs_list PySem.F.slot_list_append PySem.F.type_list_append mt_append (pv 1) (pa_cons (pe_m (pv 0) T.cKeyReader (ok_KeyReader_first_place (K := K) T) (hr.mono (by decide)) pass0 (pa_cons (pv 2) pa_nil)) pa_nil)))))
    (pss_one (ps_ret (pe_callB (sortIK (K := K) rfl) rfl T.n_sorted (by decide +kernel) (pa_cons (pv 1) pa_nil)))))), ?_⟩
    refine rd_startE (show start N_KeyReader_fewest_places [.ref x] = [some (.ref x), none, none] from rfl) ?_
    have nk := r.ok
    walk_at "rd_hid1"
    intro l1 H1 S1 e1 n1
    have r1 := r.same S1
    walk_at "rd_hid1"
    refine ⟨x, hl, d, ss, f, ls, ob, rfl, ⟨i, r1⟩, fun H2 p2 S2 n2 e2 => ?_⟩
    have ne : l1 ≠ p2 := fun z => by subst z; rw [e1] at n2; cases n2
    have ol : (openH f ls (tyL ss).length).length ≤ (tyL ss).length := by
      have := List.length_filter_le (fun k => decide (f k = k) && (gL ls k).isNone) (List.range (tyL ss).length)
      rw [List.length_range] at this
      exact this
    obtain ⟨O, eO⟩ : ∃ O, openH f ls (tyL ss).length = O := ⟨_, rfl⟩
    have lt : ∀ k ∈ O, k < (tyL ss).length := fun k hk => openH_lt (eO ▸ hk)
    have asc := openH_asc f ls (tyL ss).length
    rw [eO] at e2 q ol asc
    refine ⟨p2, rfl, ⟨_, SqL.of e2⟩, for_list (xs := natV O) (fun j σ H' => ∃ v2, σ = [some (.ref x), some (.ref l1), v2] ∧ Same H H' ∧ H' p2 = some (.lst (natV O)) ∧ H' l1 = some (.lst (natV ((O.take j).map (fstP ss))))) ⟨_, rfl, S1.trans S2, e2, S2 _ _ e1⟩ (fun j σ H' _ ⟨_, _, _, e, _⟩ => SqL.of e) ?_ ?_⟩
    · rintro j v σ H' hv ⟨v2, rfl, S, e, el⟩
      obtain ⟨k, hk, rfl⟩ : ∃ k, O[j]? = some k ∧ V.int (k : Nat) = v := by
        unfold natV at hv
        rw [List.getElem?_map] at hv
        obtain ⟨k, h3, h4⟩ := Option.map_eq_some_iff.mp hv
        exact ⟨k, h3, h4⟩
      have r2 := r.same S
      walk_at "rd_hid1"
      refine rd_tyL (SqL.of el) _ ?_
      walk_at "rd_hid1"
      refine ⟨x, hl, d, ss, f, ls, ob, k, rfl, ⟨i, r2⟩, lt k (List.mem_of_getElem? hk), fun H3 S3 => ?_⟩
      walk_at "rd_hid1"
      have lk := (List.getElem?_eq_some_iff.mp hk).1
      refine rd_append (S3 _ _ el) (by rw [natV_len, List.length_map, List.length_take, sizeLine_eq]; omega) ?_
      refine ⟨_, rfl, Same.mut (S.trans S3) n1, by rw [upd_ne (Ne.symm ne)]; exact S3 _ _ e, ?_⟩
      rw [upd_same, take_snoc hk, List.map_append]
      unfold natV
      rw [List.map_append]; rfl
    · rintro σ H' ⟨v2, rfl, S, e, el⟩
      rw [List.take_of_length_le (by rw [natV_len]; exact Nat.le_refl _)] at el
      walk_at "rd_hid1"
      refine rd_sortNatN el (pw_map asc lt (fun a b h1 h2 => fstP_lt ss 0 r.tx.ok a b h1 h2)) fun p3 H3 S3 n3 e3 => ?_
      exact q _ p3 (S.trans S3) (Same.back S n3) e3
end
section
variable {P : Program} {w : World} {K : PySem.W.Frag} {mg : Str → Option Value} {base : Heap} {CText CPart CCounter CEditor CKeyReader CTextError CInvalidStep CTooLong CInvalidPlace CInvalidLetter CARGUMENTS c_law p_law : Addr}
theorem ok_x_law_likeN (T : Txt K mg CText CPart CCounter CEditor CKeyReader CTextError CInvalidStep CTooLong CInvalidPlace CInvalidLetter CARGUMENTS c_law p_law w) : ∀ n, GOk P w K mg base CX0 (n + 1) "_law_like" (sp_x_law_likeD K n)
  | 0 => by
    refine T.d_x_law_like.ok sc_x_law_like (fun vs H Q E h => ?len) (fun f cdv A outer s H vs Q E hr h => ?_)
    case len => obtain ⟨v, w, rfl, _⟩ := h; rfl
    · obtain ⟨v, w, _, h | ⟨h, _⟩, _⟩ := h
      · exact h.elim
      · exact absurd h (Nat.not_lt_zero _)
  | n + 1 => by
    have ok_x_law_like := fun (_ : Txt K mg CText CPart CCounter CEditor CKeyReader CTextError CInvalidStep CTooLong CInvalidPlace CInvalidLetter CARGUMENTS c_law p_law w) => ok_x_law_likeN T n
    refine T.d_x_law_like.ok sc_x_law_like (fun vs H Q E h => ?len) (fun f cdv A outer s H vs Q E hr h => ?_)
    case len => obtain ⟨v, w, rfl, _⟩ := h; rfl
    · obtain ⟨v, w, rfl, h, k⟩ := h
      refine ⟨_, (pss_cons (ps_if (PW.pt (pw_or (pt_val (pe_callB (isiK (K := K) rfl) rfl T.n_isinstance (by decide +kernel) (pa_cons (pv 1) (pa_cons (pe_bltn (v := .ty "tuple") rfl T.n_tuple (by decide +kernel) rfl) pa_nil)))) (pw_or1 (pt_val (pe_callB (isiK (K := K) rfl) rfl T.n_isinstance (by decide +kernel) (pa_cons (pv 1) (pa_cons (pe_bltn (v := .ty "list") rfl T.n_list (by decide +kernel) rfl) pa_nil))))))) (pss_cons (ps_if (pt_cmpR (neK (K := K) rfl hr.units) (pe_callB (isiK (K := K) rfl) rfl T.n_isinstance (by decide +kernel) (pa_cons (pv 0) (pa_cons (pe_bltn (v := .ty "tuple") rfl T.n_tuple (by decide +kernel) rfl) pa_nil))) (pe_callB (isiK (K := K) rfl) rfl T.n_isinstance (by decide +kernel) (pa_cons (pv 1) (pa_cons (pe_bltn (v := .ty "tuple") rfl T.n_tuple (by decide +kernel) rfl) pa_nil))) (nomark _)) (pss_one (ps_ret pe_bl))
    pss_nil)
    (pss_cons (ps_if (PW.pt (pw_or (pt_cmpR (neK (K := K) rfl hr.units) (pe_callB (isiK (K := K) rfl) rfl T.n_isinstance (by decide +kernel) (pa_cons (pv 0) (pa_cons (pe_bltn (v := .ty "list") rfl T.n_list (by decide +kernel) rfl) pa_nil))) (pe_callB (isiK (K := K) rfl) rfl T.n_isinstance (by decide +kernel) (pa_cons (pv 1) (pa_cons (pe_bltn (v := .ty "list") rfl T.n_list (by decide +kernel) rfl) pa_nil))) (nomark _)) (pw_or1 (pt_cmpR (neK (K := K) rfl hr.units) (pe_callB (lenK (K := K) rfl) rfl T.n_len (by decide +kernel) (pa_cons (pv 0) pa_nil)) (pe_callB (lenK (K := K) rfl) rfl T.n_len (by decide +kernel) (pa_cons (pv 1) pa_nil)) (nomark _))))) (pss_one (ps_ret pe_bl))
    pss_nil)
    (pss_one (ps_ret (pe_cmpR (eqK (K := K) rfl hr.units) (pe_lc (own := [("_law_k", 2)]) rfl sc_x_law_like.nd (pi_range1 rfl T.n_range (pa_cons (pe_callB (lenK (K := K) rfl) rfl T.n_len (by decide +kernel) (pa_cons (pv 1) pa_nil)) pa_nil)) (blkOk_by (own := [("_law_k", 2)]) (N := N_x_law_like) (sc := (defScope s_x_law_like)) (by first | decide +kernel | rfl)) (fun _ _ _ _ _ => (pg_name (i := 2) sc_x_law_like.nd rfl (Or.inl rfl))) (fun _ _ _ _ _ => (pts_one (pt_not (pt_val (pe_g (ok_x_law_like T) (hr.mono (by omega)) pass0 (pa_cons (pe_ix (ixK (K := K) rfl) (pv 0) (pv 2) (fun _ _ => rfl)) (pa_cons (pe_ix (ixK (K := K) rfl) (pv 1) (pv 2) (fun _ _ => rfl)) pa_nil))))))) (fun _ _ _ _ _ => (pv 2))) (pe_lst pa_nil) (nomark _))))))
    pss_nil)
    (pss_cons (ps_if (pt_cmpR (neK (K := K) rfl hr.units) (pe_callB (isiK (K := K) rfl) rfl T.n_isinstance (by decide +kernel) (pa_cons (pv 0) (pa_cons (pe_bltn (v := .ty "bool") rfl T.n_bool (by decide +kernel) rfl) pa_nil))) (pe_callB (isiK (K := K) rfl) rfl T.n_isinstance (by decide +kernel) (pa_cons (pv 1) (pa_cons (pe_bltn (v := .ty "bool") rfl T.n_bool (by decide +kernel) rfl) pa_nil))) (nomark _)) (pss_one (ps_ret pe_bl))
    pss_nil)
    (pss_cons (ps_if (PW.pt (pw_or (pt_cmpR (neK (K := K) rfl hr.units) (pe_callB (isiK (K := K) rfl) rfl T.n_isinstance (by decide +kernel) (pa_cons (pv 0) (pa_cons (pe_bltn (v := .ty "int") rfl T.n_int (by decide +kernel) rfl) pa_nil))) (pe_callB (isiK (K := K) rfl) rfl T.n_isinstance (by decide +kernel) (pa_cons (pv 1) (pa_cons (pe_bltn (v := .ty "int") rfl T.n_int (by decide +kernel) rfl) pa_nil))) (nomark _)) (pw_or1 (pt_cmpR (neK (K := K) rfl hr.units) (pe_callB (isiK (K := K) rfl) rfl T.n_isinstance (by decide +kernel) (pa_cons (pv 0) (pa_cons (pe_bltn (v := .ty "str") rfl T.n_str (by decide +kernel) rfl) pa_nil))) (pe_callB (isiK (K := K) rfl) rfl T.n_isinstance (by decide +kernel) (pa_cons (pv 1) (pa_cons (pe_bltn (v := .ty "str") rfl T.n_str (by decide +kernel) rfl) pa_nil))) (nomark _))))) (pss_one (ps_ret pe_bl))
    pss_nil)
    (pss_one (ps_ret (pe_cmpR ((oEqAD (K := K) hr.units rfl)) (pv 0) (pv 1) (nomark _))))))), ?_⟩
      refine rd_startE (show start N_x_law_like [v, w] = [some (v), some (w), none] from rfl) ?_
      rcases h with (⟨i, rfl, rfl⟩ | ⟨x, rfl, rfl, hx⟩ | ⟨rfl, rfl⟩ | ⟨a, b, xs, ys, rfl, rfl, ⟨q1, q2⟩ | ⟨q1, q2⟩, hl, hz, hr'⟩) | ⟨_, a, b, kvs, rfl, rfl, q1, q2, fl⟩
      · walk_at "rd_Fa"
        refine rd_eqADl ?_
        walk_at "rd_Fa"
        rw [decide_eq_true rfl]
        exact k _ (Same.refl _)
      · walk_at "rd_Fa"
        refine rd_eqADl ?_
        walk_at "rd_Fa"
        rw [decide_eq_true rfl]
        exact k _ (Same.refl _)
      · walk_at "rd_Fa"
        refine rd_eqADl ?_
        refine rd_eq_scal rfl ?_
        rw [show decide (V.non = V.non) = true from decide_eq_true rfl]
        exact k _ (Same.refl _)
      · walk_at "rd_Fa"
        refine rd_isi_tup_tuple (q2) ?_
        walk_at "rd_Fa"
        refine rd_isi_tup_tuple (q1) ?_
        walk_at "rd_Fa"
        refine rd_isi_tup_tuple (q2) ?_
        walk_at "rd_Fa"
        refine rd_isi_tup_list (q1) ?_
        walk_at "rd_Fa"
        refine rd_isi_tup_list (q2) ?_
        walk_at "rd_Fa"
        refine rd_len_tup (q1) ?_
        walk_at "rd_Fa"
        refine rd_len_tup (q2) ?_
        walk_at "rd_Fa"
        refine rd_len_tup (q2) ?_
        walk_at "rd_Fa"
        have line : ys.length < 2 ^ 62 := by rw [sizeLine_eq] at hz; omega
        refine ⟨_, rfl, by omega, by omega, fun D hD => lc_filt (n := ys.length) (f := fun _ => .non) (p := fun _ => false) (by rw [Int.toNat_natCast]; exact plain_rng) hD (by omega) (fun _ => rfl) (fun i H1 R1 hi S q => ?_) (fun i H1 Q1 hi z => by cases z) fun H1 S eD => ?_⟩
        · have ex : xs[i]? = some (xs[i]'(by omega)) := List.getElem?_eq_getElem _
          have ey : ys[i]? = some ys[i] := List.getElem?_eq_getElem hi
          rw [show (0 : Int) + (i : Nat) = (i : Nat) by omega]
          walk_at "rd_Fa"
          refine rd_ixTn (Same.tup S q1) ex ?_
          walk_at "rd_Fa"
          refine rd_ixTn (Same.tup S q2) ey ?_
          walk_at "rd_Fa"
          exact ⟨_, _, rfl, .inl ((hr' i _ _ ex ey).mono S), fun H' S4 => by
            walk_at "rd_Fa"
            exact q _ S4⟩
        · walk_at "rd_Fa"
          intro p3 H4 S4 e4 _
          have e0 : ((List.range ys.length).filter fun _ => false) = [] := by simp
          rw [e0, List.map_nil] at eD
          exact rd_eq_same (n := 1) (d := .list []) (.lst (SqL.of (S4 _ _ eD)) .nil) (.lst (SqL.of e4) .nil) (.lst fun d hd => by cases hd) (by decide) (k _ (S.trans S4))
      · walk_at "rd_Fa"
        refine rd_isi_lst_tuple (q2) ?_
        walk_at "rd_Fa"
        refine rd_isi_lst_list q2 ?_
        walk_at "rd_Fa"
        refine rd_isi_lst_tuple (q1) ?_
        walk_at "rd_Fa"
        refine rd_isi_lst_tuple (q2) ?_
        walk_at "rd_Fa"
        refine rd_isi_lst_list (q1) ?_
        walk_at "rd_Fa"
        refine rd_isi_lst_list (q2) ?_
        walk_at "rd_Fa"
        refine rd_len_lst (q1) ?_
        walk_at "rd_Fa"
        refine rd_len_lst (q2) ?_
        walk_at "rd_Fa"
        refine rd_len_lst (q2) ?_
        walk_at "rd_Fa"
        have line : ys.length < 2 ^ 62 := by rw [sizeLine_eq] at hz; omega
        refine ⟨_, rfl, by omega, by omega, fun D hD => lc_filt (n := ys.length) (f := fun _ => .non) (p := fun _ => false) (by rw [Int.toNat_natCast]; exact plain_rng) hD (by omega) (fun _ => rfl) (fun i H1 R1 hi S q => ?_) (fun i H1 Q1 hi z => by cases z) fun H1 S eD => ?_⟩
        · have ex : xs[i]? = some (xs[i]'(by omega)) := List.getElem?_eq_getElem _
          have ey : ys[i]? = some ys[i] := List.getElem?_eq_getElem hi
          rw [show (0 : Int) + (i : Nat) = (i : Nat) by omega]
          walk_at "rd_Fa"
          refine rd_ixLn (S.seq q1) ex ?_
          walk_at "rd_Fa"
          refine rd_ixLn (S.seq q2) ey ?_
          walk_at "rd_Fa"
          exact ⟨_, _, rfl, .inl ((hr' i _ _ ex ey).mono S), fun H' S4 => by
            walk_at "rd_Fa"
            exact q _ S4⟩
        · walk_at "rd_Fa"
          intro p3 H4 S4 e4 _
          have e0 : ((List.range ys.length).filter fun _ => false) = [] := by simp
          rw [e0, List.map_nil] at eD
          exact rd_eq_same (n := 1) (d := .list []) (.lst (SqL.of (S4 _ _ eD)) .nil) (.lst (SqL.of e4) .nil) (.lst fun d hd => by cases hd) (by decide) (k _ (S.trans S4))
      · walk_at "rd_Fa"
        refine rd_isi_dK_tuple q2 ?_
        walk_at "rd_Fa"
        refine rd_isi_dK_list q2 ?_
        walk_at "rd_Fa"
        refine rd_isi_dK_bool q1 ?_
        walk_at "rd_Fa"
        refine rd_isi_dK_bool q2 ?_
        walk_at "rd_Fa"
        refine rd_isi_dK_int q1 ?_
        walk_at "rd_Fa"
        refine rd_isi_dK_int q2 ?_
        walk_at "rd_Fa"
        refine rd_isi_dK_str q1 ?_
        walk_at "rd_Fa"
        refine rd_isi_dK_str q2 ?_
        walk_at "rd_Fa"
        exact rd_eqADr q1 q2 fl (k _ (Same.refl _))
theorem ok_x_law_like (T : Txt K mg CText CPart CCounter CEditor CKeyReader CTextError CInvalidStep CTooLong CInvalidPlace CInvalidLetter CARGUMENTS c_law p_law w) : GOk P w K mg base CX0 6 "_law_like" (sp_x_law_likeD K 5) := ok_x_law_likeN T 5
end
local macro_rules | `(tactic| walk_at "rd1_Fl") => `(tactic| first
  | with_reducible refine rd_seq ?_ | with_reducible refine rd_asg ?_ | with_reducible refine rd_name ?_ | ((with_reducible refine' rd_var ?k1 ?_); (case k1 => rfl)) | with_reducible refine rd_C ?_ | with_reducible refine rd_op ?_ | with_reducible refine rd_cons ?_ | with_reducible refine rd_nil ?_
  | with_reducible refine rd_test ?_ | with_reducible refine rd_tB ?_ | with_reducible refine rd_bl ?_ | with_reducible refine rd_ifS ?_ | with_reducible refine rd_and ?_ | with_reducible refine rd_or ?_ | with_reducible refine rd_not ?_ | with_reducible refine rd_andV ?_ | with_reducible refine rd_orV ?_ | with_reducible refine rd_notV ?_ | with_reducible refine rd_chain ?_
  | with_reducible refine rd_if ?_ | with_reducible refine rd_g ?_ | with_reducible refine rd_m ?_ | with_reducible refine rd_star ?_ | with_reducible refine rd_tup ?_ | with_reducible refine rd_lst ?_ | with_reducible refine rd_fld ?_ | with_reducible refine rd_cb ?_ | with_reducible refine rd_un ?_ | with_reducible refine rd_makeR ?_ | with_reducible refine rd_makeS ?_
  | with_reducible refine rd_bm ?_ | with_reducible refine rd_bm0 ?_ | with_reducible refine rd_next ?_ | with_reducible refine rd_break ?_ | with_reducible refine rd_cont ?_ | with_reducible refine rd_ret ?_ | with_reducible refine rd_retN ?_ | with_reducible refine rd_drop ?_ | with_reducible refine rd_gcons ?_ | with_reducible refine rd_gnil ?_ | with_reducible refine rd_gsub ?_
  | ((with_reducible refine' rd_aug ?k1 ?_); (case k1 => rfl)) | with_reducible refine rd_ipI ?_ | with_reducible refine rd_sfld ?_ | with_reducible refine rd_for ?_ | with_reducible refine rd_iStr ?_ | with_reducible refine rd_iList ?_ | with_reducible refine rd_iTup ?_ | with_reducible refine rd_iRng1 ?_ | with_reducible refine rd_iRng2 ?_ | with_reducible refine rd_iEnumT ?_ | with_reducible refine rd_match ?_ | with_reducible refine rd_par ?_ | with_reducible refine rd_two ?_
  | with_reducible refine rd_sl ?_ | with_reducible refine rd_noPart ?_ | with_reducible refine rd_part ?_ | with_reducible refine rd_pint ?_ | with_reducible refine rd_listRg ?_ | with_reducible refine rd_rg1 ?_ | with_reducible refine rd_rg2 ?_ | with_reducible refine rd_ixO ?_ | with_reducible refine rd_U ?_ | with_reducible refine rd_int_int ?_ | with_reducible refine rd_int_bl ?_ | with_reducible refine rd_min2 ?_ | with_reducible refine rd_max2 ?_ | with_reducible refine rd_in_sign ?_ | with_reducible refine rd_isN ?_ | with_reducible refine rd_notN ?_
  | with_reducible refine rd_lc ?_ | with_reducible refine rd_yes ?_ | with_reducible refine rd_prop ?_ | with_reducible refine rd_cmeth ?_ | with_reducible refine rd_o ?_ | with_reducible refine rd_add_int ?_ | with_reducible refine rd_sub ?_ | with_reducible refine rd_eq_int ?_ | with_reducible refine rd_eq_str ?_ | with_reducible refine rd_eq_bl ?_ | with_reducible refine rd_ne_int ?_ | with_reducible refine rd_ne_str ?_ | with_reducible refine rd_ne_bl ?_ | with_reducible refine rd_I0 ?_
  | with_reducible refine rd_isi_int_int ?_ | with_reducible refine rd_isi_int_bool ?_ | with_reducible refine rd_isi_int_str ?_ | with_reducible refine rd_isi_int_list ?_ | with_reducible refine rd_isi_int_tuple ?_ | with_reducible refine rd_isi_bl_int ?_ | with_reducible refine rd_isi_bl_bool ?_ | with_reducible refine rd_isi_bl_str ?_ | with_reducible refine rd_isi_bl_list ?_ | with_reducible refine rd_isi_bl_tuple ?_ | with_reducible refine rd_isi_str_int ?_ | with_reducible refine rd_isi_str_bool ?_ | with_reducible refine rd_isi_str_str ?_ | with_reducible refine rd_isi_str_list ?_ | with_reducible refine rd_isi_str_tuple ?_ | with_reducible refine rd_isi_non_int ?_ | with_reducible refine rd_isi_non_bool ?_ | with_reducible refine rd_isi_non_str ?_ | with_reducible refine rd_isi_non_list ?_ | with_reducible refine rd_isi_non_tuple ?_)
local macro_rules | `(tactic| walk_at "rd_Fl") => `(tactic| repeat walk_at "rd1_Fl")
local macro_rules | `(tactic| walk_at "same_Fl") => `(tactic| first | assumption | exact Same.refl _ | (refine Same.new ?_ (by assumption); walk_at "same_Fl") | (refine Same.mut ?_ (by assumption); walk_at "same_Fl") | (refine Same.trans ?_ (by assumption); walk_at "same_Fl"))
local macro_rules | `(tactic| walk_at "zl_Fl") => `(tactic| (rw [sizeLine_eq]; first | decide | (simp only [List.length_cons, List.length_nil]; omega) | omega))
local macro_rules | `(tactic| walk_at "sm_Fl") => `(tactic| first | exact Same.refl _ | assumption | ((with_reducible refine' Same.trans ?sx ?sy); (case sy => assumption); (case sx => walk_at "sm_Fl")))
local macro_rules | `(tactic| walk_at "kp_Fl") => `(tactic| first | exact Kp.refl | assumption | ((with_reducible refine' Kp.trans ?kx ?ky); (case ky => assumption); (case kx => walk_at "kp_Fl")) | ((with_reducible refine' Kp.trans ?kx (Kp.same ?ky)); (case ky => assumption); (case kx => walk_at "kp_Fl")))
local macro_rules | `(tactic| walk_at "tx_Fl") => `(tactic| first | assumption | ((with_reducible refine' TX.kp ?tx1 ?tx2); (case tx1 => assumption); (case tx2 => walk_at "kp_Fl")))
local macro_rules | `(tactic| walk_at "ts_Fl") => `(tactic| first | assumption | ((with_reducible refine' TS'.kp ?tx1 ?tx2); (case tx1 => assumption); (case tx2 => walk_at "kp_Fl")) | ((with_reducible refine' ts_nil ?tx1); (case tx1 => assumption)))
local macro_rules | `(tactic| walk_at "sx_Fl") => `(tactic| first | assumption | ((with_reducible refine' SX.kp ?tx1 ?tx2); (case tx1 => assumption); (case tx2 => walk_at "kp_Fl")) | ((with_reducible refine' TS'.sx ?tx1); (case tx1 => walk_at "ts_Fl")))
local macro_rules | `(tactic| walk_at "row_Fl") => `(tactic| first | assumption | ((with_reducible refine' RowAt.mono ?tx1 ?tx2); (case tx1 => assumption); (case tx2 => walk_at "sm_Fl")))
local macro_rules | `(tactic| walk_at "ls_Fl") => `(tactic| first | assumption | ((with_reducible refine' kp_natV ?tx1 ?tx2); (case tx1 => assumption); (case tx2 => walk_at "kp_Fl")) | ((with_reducible refine' kp_sgV ?tx1 ?tx2); (case tx1 => assumption); (case tx2 => walk_at "kp_Fl")) | ((refine' Same.lk ?tx1 ?tx2); (case tx1 => assumption); (case tx2 => walk_at "sm_Fl")))
local macro_rules | `(tactic| walk_at "om_Fl") => `(tactic| first | omega | with_reducible assumption)
local macro_rules | `(tactic| walk_at "rd1_Fl") => `(tactic| first
  | with_reducible refine rd_cons ?_ | ((with_reducible refine' rd_var ?k1 ?_); (case k1 => rfl)) | with_reducible refine rd_C ?_ | with_reducible refine rd_nil ?_ | with_reducible refine rd_op ?_ | with_reducible refine rd_g ?_
  | ((with_reducible refine' rd_nameE ?k1 ?_); (case k1 => (dsimp only [List.set_cons_zero, List.set_cons_succ]; exact rfl))) | with_reducible refine rd_asg ?_ | with_reducible refine rd_seq ?_ | with_reducible refine rd_andrfl ?_ | with_reducible refine rd_prop ?_ | with_reducible refine rd_cb ?_ | with_reducible refine rd_test ?_ | with_reducible refine rd_bl ?_ | with_reducible refine rd_ifS ?_ | with_reducible refine rd_next ?_
  | with_reducible refine rd_tupN ?_ | with_reducible refine rd_lstN ?_ | with_reducible refine rd_add_int ?_ | with_reducible refine rd_sub ?_ | with_reducible refine rd_tB ?_ | with_reducible refine rd_not ?_ | with_reducible refine rd_and ?_ | with_reducible refine rd_or ?_ | with_reducible refine rd_ret ?_ | with_reducible refine rd_cmeth ?_ | with_reducible refine rd_o ?_ | with_reducible refine rd_I0 ?_
  | ((with_reducible show @Eq (Option HO) _ Option.none → _); intro) | with_reducible refine rd_m1 ?_ | with_reducible refine rd_exStr ?_ | ((with_reducible refine' rd_iNat ?k1 ?_); (case k1 => walk_at "ls_Fl"))
  | ((with_reducible refine' rd_taken ?k1 ?k2 ?k3 ?_); (case k1 => walk_at "row_Fl"); (case k2 => walk_at "om_Fl"); (case k3 => walk_at "om_Fl"))
  | ((with_reducible refine' rd_word ?k1 ?k2 ?k3 ?_); (case k1 => walk_at "row_Fl"); (case k2 => walk_at "om_Fl"); (case k3 => walk_at "om_Fl"))
  | ((with_reducible refine' rd_stepsL ?k1 ?k2 ?k3 ?k4 ?k5 ?_); (case k1 => walk_at "row_Fl"); (case k2 => walk_at "om_Fl"); (case k3 => walk_at "om_Fl"); (case k4 => walk_at "om_Fl"); (case k5 => walk_at "om_Fl"))
  | ((with_reducible refine' rd_listS ?k1 ?_); (case k1 => walk_at "ts_Fl"))
  | ((with_reducible refine' rd_ofSteps ?k1 ?k2 ?k3 ?_); (case k1 => walk_at "sx_Fl"); (case k2 => walk_at "om_Fl"); (case k3 => walk_at "om_Fl"))
  | ((with_reducible refine' rd_pSize ?k1 ?_); (case k1 => walk_at "tx_Fl"))
  | ((with_reducible refine' rd_pTyped ?k1 ?_); (case k1 => walk_at "tx_Fl"))
  | ((with_reducible refine' rd_pSteps ?k1 ?_); (case k1 => walk_at "tx_Fl"))
  | ((with_reducible refine' rd_oCall ?k1 ?k2 ?k3 ?_); (case k1 => walk_at "tx_Fl"); (case k2 => walk_at "om_Fl"); (case k3 => walk_at "om_Fl"))
  | ((with_reducible refine' rd_oItem ?k1 ?k2 ?k3 ?_); (case k1 => walk_at "tx_Fl"); (case k2 => walk_at "om_Fl"); (case k3 => walk_at "om_Fl"))
  | ((with_reducible refine' rd_opAdd ?k1 ?k2 ?k3 ?k4 ?_); (case k1 => walk_at "tx_Fl"); (case k2 => walk_at "tx_Fl"); (case k3 => walk_at "om_Fl"); (case k4 => walk_at "om_Fl"))
  | ((with_reducible refine' rd_opMul ?k1 ?k2 ?k3 ?k4 ?k5 ?_); (case k1 => walk_at "tx_Fl"); (case k2 => walk_at "om_Fl"); (case k3 => walk_at "om_Fl"); (case k4 => walk_at "om_Fl"); (case k5 => walk_at "om_Fl"))
  | ((with_reducible refine' rd_opEq ?k1 ?k2 ?_); (case k1 => walk_at "tx_Fl"); (case k2 => walk_at "tx_Fl"))
  | ((with_reducible refine' rd_opEqT ?k1 ?k2 ?_); (case k1 => walk_at "tx_Fl"); (case k2 => walk_at "ts_Fl"))
  | ((with_reducible refine' rd_opNe ?k1 ?k2 ?_); (case k1 => walk_at "tx_Fl"); (case k2 => walk_at "tx_Fl"))
  | ((with_reducible refine' rd_mTx ?k1 ?k2 ?_); (case k1 => walk_at "tx_Fl"); (case k2 => decide +kernel))
  | ((with_reducible refine' rd_mRetyped ?k1 ?k2 ?k3 ?_); (case k1 => walk_at "tx_Fl"); (case k2 => walk_at "om_Fl"); (case k3 => walk_at "om_Fl"))
  | ((with_reducible refine' rd_eqTT ?k1 ?k2 ?k3 ?k4 ?_); (case k1 => walk_at "ts_Fl"); (case k2 => walk_at "ts_Fl"); (case k3 => first | assumption | trivial); (case k4 => first | assumption | trivial))
  | ((with_reducible refine' rd_neTT ?k1 ?k2 ?k3 ?k4 ?_); (case k1 => walk_at "ts_Fl"); (case k2 => walk_at "ts_Fl"); (case k3 => first | assumption | trivial); (case k4 => first | assumption | trivial))
  | ((with_reducible refine' rd_neNN ?k1 ?k2 ?_); (case k1 => walk_at "ls_Fl"); (case k2 => walk_at "ls_Fl"))
  | ((with_reducible refine' rd_eqNN ?k1 ?k2 ?_); (case k1 => walk_at "ls_Fl"); (case k2 => walk_at "ls_Fl"))
  | ((with_reducible refine' rd_lenN ?k1 ?_); (case k1 => walk_at "ls_Fl"))
  | ((with_reducible refine' rd_lenS ?k1 ?_); (case k1 => walk_at "om_Fl"))
  | ((with_reducible refine' rd_ixN ?k1 ?k2 ?k3 ?_); (case k1 => walk_at "ls_Fl"); (case k2 => walk_at "om_Fl"); (case k3 => walk_at "om_Fl"))
  | ((with_reducible refine' rd_ixC ?k1 ?k2 ?k3 ?_); (case k1 => walk_at "om_Fl"); (case k2 => walk_at "om_Fl"); (case k3 => walk_at "om_Fl"))
  | ((with_reducible refine' rd_gtup ?k1 ?k2 ?_); (case k1 => exact SqT.of (by assumption)); (case k2 => rfl))
  | ((with_reducible refine' rd_new ?k1 ?_); (case k1 => walk_at "zl_Fl"))
  | with_reducible refine rd_ref1 ?_
  | with_reducible refine rd_nF rfl ?_ | with_reducible refine rd_dT rfl ?_ | with_reducible refine rd_cT rfl ?_ | with_reducible refine rd_cF rfl ?_
  | ((with_reducible refine' rd_dT ?k1 ?_); (case k1 => omega)) | ((with_reducible refine' rd_dF ?k1 ?_); (case k1 => omega)) | ((with_reducible refine' rd_nT ?k1 ?_); (case k1 => omega)) | ((with_reducible refine' rd_nF ?k1 ?_); (case k1 => omega)))
local macro_rules | `(tactic| walk_at "rdS_Fl") => `(tactic| repeat ((fail_if_success with_reducible show tIfS _ _ _ _ _ _); walk_at "rd1_Fl"))
local macro_rules | `(tactic| walk_at "kl_Fl") => `(tactic| first | exact Kl.refl | assumption | ((with_reducible refine' Kl.trans ?kx ?ky); (case ky => assumption); (case kx => walk_at "kl_Fl")) | ((with_reducible refine' Kl.trans ?kx (Kl.kp ?ky)); (case ky => assumption); (case kx => walk_at "kl_Fl")) | ((with_reducible refine' Kl.trans ?kx (Kx.kl ?ky)); (case ky => assumption); (case kx => walk_at "kl_Fl")) | ((with_reducible refine' Kl.trans ?kx (Kl.same ?ky)); (case ky => assumption); (case kx => walk_at "kl_Fl")))
local macro_rules | `(tactic| walk_at "tx_Fl") => `(tactic| first | assumption | ((with_reducible refine' TX.kl ?tx1 ?tx2); (case tx1 => assumption); (case tx2 => walk_at "kl_Fl")))
local macro_rules | `(tactic| walk_at "ts_Fl") => `(tactic| first | assumption | ((with_reducible refine' TS'.kl ?tx1 ?tx2); (case tx1 => assumption); (case tx2 => walk_at "kl_Fl")) | ((with_reducible refine' ts_nil ?tx1); (case tx1 => assumption)))
local macro_rules | `(tactic| walk_at "sx_Fl") => `(tactic| first | assumption | ((with_reducible refine' SX.kl ?tx1 ?tx2); (case tx1 => assumption); (case tx2 => walk_at "kl_Fl")) | ((with_reducible refine' TS'.sx ?tx1); (case tx1 => walk_at "ts_Fl")))
local macro_rules | `(tactic| walk_at "row_Fl") => `(tactic| first | assumption | ((with_reducible refine' RowAt.mono ?tx1 ?tx2); (case tx1 => walk_at "row_Fl"); (case tx2 => walk_at "sm_Fl")) | ((with_reducible refine' Kx.row ?tx2 ?tx1); (case tx2 => assumption); (case tx1 => walk_at "row_Fl")))
local macro_rules | `(tactic| walk_at "ls_Fl") => `(tactic| first | assumption | ((with_reducible refine' kl_natV ?tx1 ?tx2); (case tx1 => assumption); (case tx2 => walk_at "kl_Fl")) | ((with_reducible refine' kl_sgV ?tx1 ?tx2); (case tx1 => assumption); (case tx2 => walk_at "kl_Fl")) | ((refine' Same.lk ?tx1 ?tx2); (case tx1 => assumption); (case tx2 => walk_at "sm_Fl")))
local macro_rules | `(tactic| walk_at "tb_Fl") => `(tactic| first | assumption | ((with_reducible refine' Kl.tabs ?tx2 ?tx1); (case tx1 => assumption); (case tx2 => walk_at "kl_Fl")))
local macro_rules | `(tactic| walk_at "rd1_Fl") => `(tactic| first | with_reducible refine rd_p9 ?_ | ((with_reducible refine' rd_stepsQ ?k1 ?k2 ?k3 ?k4 ?k5 ?_); (case k1 => walk_at "row_Fl"); (case k2 => omega); (case k3 => omega); (case k4 => omega); (case k5 => omega)))
section
variable {P : Program} {w : World} {K : PySem.W.Frag} {mg : Str → Option Value} {base : Heap} {CText CPart CCounter CEditor CKeyReader CTextError CInvalidStep CTooLong CInvalidPlace CInvalidLetter CARGUMENTS c_law p_law : Addr}
theorem ok_law (T : Txt K mg CText CPart CCounter CEditor CKeyReader CTextError CInvalidStep CTooLong CInvalidPlace CInvalidLetter CARGUMENTS c_law p_law w) (LB : Lms K mg base c_law p_law) {f : Addr} {fd : FuncData} (F : FunC K "law" "law" s_law c_law f fd) : FnOk P w K mg base CX0 73 f fd ["_law_script"] (sp_lawL K (TL p_law)) := by
  refine F.ok sc_law (fun vs H Q E h => ?len) (fun A outer s H vs Q E hr h => ?_)
  case len => obtain ⟨a, sc, rfl, _⟩ := h; rfl
  · obtain ⟨a, sc, rfl, ha, tab, k⟩ := h
    refine ⟨_, (pss_cons (ps_set (i := 1) sc_law.nd rfl (Or.inl rfl) (pe_g (ok_x_law_dice (K := K) T) (hr.mono (by decide)) pass0 (pa_cons (pv 0) pa_nil)))
    (pss_cons (ps_set (i := 2) sc_law.nd rfl (Or.inl rfl) (pe_g (ok_x_law_some (K := K) T) (hr.mono (by decide)) pass0 (pa_cons (pv 1) (pa_cons pe_int (pa_cons pe_int pa_nil)))))
    (pss_cons (ps_set (i := 3) sc_law.nd rfl (Or.inl rfl) (pe_g (ok_x_law_made (K := K) T) (hr.mono (by decide)) pass0 (pa_cons (pv 2) pa_nil)))
    (pss_cons (ps_asg (pe_tup (pa_cons (pe_c (pe_glob (v := .ref CEditor) rfl T.g_Editor rfl) (ok_Editor_replay (K := K) T) (hr.mono (by decide)) pass0 (pa_cons (pe_callTy (tupK (K := K) rfl) rfl T.n_tuple (by decide +kernel) (pa_cons (pv 2) pa_nil)) (pa_cons (pe_lst pa_nil) pa_nil))) (pa_cons (pe_k (ok_KeyReader_init (K := K) T) (hr.mono (by decide)) T.g_KeyReader pass0 (pa_cons (pv 3) pa_nil)) pa_nil))) (pg_tupK (K := K) (n := 2) rfl rfl (pgs_cons (pg_name (i := 4) sc_law.nd rfl (Or.inr rfl)) (pgs_cons (pg_name (i := 5) sc_law.nd rfl (Or.inr rfl)) pgs_nil))))
    (pss_cons (ps_expr (pe_m (pv 4) T.cEditor (ok_Editor_write (K := K) T).mo (hr.mono (by decide)) pass0 (pa_cons pe_str pa_nil)))
    (pss_cons (ps_expr (pe_m (pv 5) T.cKeyReader (ok_KeyReader_see (K := K) T) (hr.mono (by decide)) pass0 (pa_cons pe_int (pa_cons (pe_ixO (ok_Text_getitem (K := K) T) (hr.mono (by decide)) pass0 (pv 3) pe_int) pa_nil))))
    (pss_cons (ps_set (i := 6) sc_law.nd rfl (Or.inl rfl) (pe_lst (pa_cons (pe_lam (T := (TL p_law)) (k := 70) LB.tb_law rfl (.head _) LB.hu_law (lamC_by (N := N_law) (sc := defScope s_law) (by decide +kernel)) (fun A outer s H E f c' hr => (pe_p (pv 4) T.cEditor (ok_Editor_history (K := K) T) (hr.mono (by decide)) pass0))) (pa_cons (pe_lamD (T := (TL p_law)) (k := 70) (b := "_law_a") LB.tb_law rfl (.head _) LB.hu_law (lamC_by (N := N_law) (sc := defScope s_law) (by decide +kernel)) rfl rfl pe_int (fun A outer s H E f c' hr => (pe_p (pv 5) T.cKeyReader (ok_KeyReader_observations (K := K) T) (hr.mono (by decide)) pass0)) (fun _ _ _ _ _ _ _ _ => ⟨_, rfl, rfl⟩)) (pa_cons (pe_lamD (T := (TL p_law)) (k := 70) (b := "_law_b") LB.tb_law rfl (.head _) LB.hu_law (lamC_by (N := N_law) (sc := defScope s_law) (by decide +kernel)) rfl rfl pe_int (fun A outer s H E f c' hr => (pe_m0 (pv 5) T.cKeyReader (ok_KeyReader_fewest_places (K := K) T) (hr.mono (by decide)) pass0)) (fun _ _ _ _ _ _ _ _ => ⟨_, rfl, rfl⟩)) pa_nil)))))
    (pss_cons (ps_par (i := 7) (j := 8) rfl sc_law.nd rfl rfl (by decide) rfl rfl (pa_cons (pe_lcM (own := [("_law_one", 9)]) rfl sc_law.nd (pi_listK (K := K) rfl (pv 6)) (blkOk_by (own := [("_law_one", 9)]) (N := N_law) (sc := (defScope s_law)) (by first | decide +kernel | rfl)) (fun σ0 s0 H0 C0 cl0 fp0 mk => ⟨(pg_name (i := 9) sc_law.nd rfl (Or.inl rfl)), pts_nil, (pe_actB (k := 70) (i := 9) mk (hr.mono (by decide)) rfl (Or.inl rfl))⟩)) (pa_cons (pe_p (pv 5) T.cKeyReader (ok_KeyReader_known_letters (K := K) T) (hr.mono (by decide)) pass0) pa_nil)) rfl)
    (pss_cons (ps_par (i := 10) (j := 11) rfl sc_law.nd rfl rfl (by decide) rfl rfl (pa_cons (pe_lc (own := [("_law_one", 9)]) rfl sc_law.nd (pi_listK (K := K) rfl (pv 7)) (blkOk_by (own := [("_law_one", 9)]) (N := N_law) (sc := (defScope s_law)) (by first | decide +kernel | rfl)) (fun _ _ _ _ _ => (pg_name (i := 9) sc_law.nd rfl (Or.inl rfl))) (fun _ _ _ _ _ => pts_nil) (fun _ _ _ _ _ => (pe_callTy (listK (K := K) rfl) rfl T.n_list (by decide +kernel) (pa_cons (pv 9) pa_nil)))) (pa_cons (pe_callTy call_dictD rfl T.n_dict (by decide +kernel) (pa_cons (pv 8) pa_nil)) pa_nil)) rfl)
    (pss_cons (ps_for PassesOwn.never rfl (pi_listK (K := K) rfl (pv 7)) (pg_name (i := 9) sc_law.nd rfl (Or.inl rfl)) (pss_one (ps_expr (pe_bmK (K := K) rfl PySem.F.plainAttrs_list PySem.F.slot_list_append PySem.F.type_list_append mt_append (pv 9) (pa_cons pe_str pa_nil)))))
    (pss_cons (ps_dput (hu_of hr) (pv 8) pe_int pe_str rfl)
    (pss_cons (ps_if (PW.pt (pw_or (pt_not (pt_val (pe_g (ok_x_law_like T) (hr.mono (by decide)) pass0 (pa_cons (pe_lcM (own := [("_law_one", 9)]) rfl sc_law.nd (pi_listK (K := K) rfl (pv 6)) (blkOk_by (own := [("_law_one", 9)]) (N := N_law) (sc := (defScope s_law)) (by first | decide +kernel | rfl)) (fun σ0 s0 H0 C0 cl0 fp0 mk => ⟨(pg_name (i := 9) sc_law.nd rfl (Or.inl rfl)), pts_nil, (pe_actB (k := 70) (i := 9) mk (hr.mono (by decide)) rfl (Or.inl rfl))⟩)) (pa_cons (pv 10) pa_nil))))) (pw_or1 (pt_not (pt_val (pe_g (ok_x_law_like T) (hr.mono (by decide)) pass0 (pa_cons (pe_p (pv 5) T.cKeyReader (ok_KeyReader_known_letters (K := K) T) (hr.mono (by decide)) pass0) (pa_cons (pv 11) pa_nil)))))))) (pss_one (ps_ret pe_bl))
    pss_nil)
    (pss_cons (ps_set (i := 12) sc_law.nd rfl (Or.inl rfl) (pe_lst (pa_cons (pe_lg (pgen_mG (pv 4) T.cEditor (ok_Editor_sizes_after (K := K) T) (hr.mono (by decide)) (pa_cons (pe_tup (pa_cons pe_str (pa_cons pe_str pa_nil))) pa_nil)) (hr.mono (by decide)) T.n_list) (pa_cons (pe_lg (pgen_mG (pv 4) T.cEditor (ok_Editor_sizes_after (K := K) T) (hr.mono (by decide)) (pa_cons (pe_tup (pa_cons pe_str (pa_cons pe_str pa_nil))) pa_nil)) (hr.mono (by decide)) T.n_list) pa_nil))))
    (pss_one (ps_ret (pe_and (pe_cmpR (eqK (K := K) rfl hr.units) (pe_ix (ixK (K := K) rfl) (pv 12) pe_int (fun _ _ => rfl)) (pe_ix (ixK (K := K) rfl) (pv 12) pe_int (fun _ _ => rfl)) (nomark _)) (pe_one (pe_cmpR (eqK (K := K) rfl hr.units) (pe_p (pv 4) T.cEditor (ok_Editor_history (K := K) T) (hr.mono (by decide)) pass0) (pe_ix (ixK (K := K) rfl) (pv 10) pe_int (fun _ _ => rfl)) (nomark _))))))))))))))))))), ?_⟩
    refine rd_startE (show start N_law [.ref a] = [some (.ref a), none, none, none, none, none, none, none, none, none, none, none, none] from rfl) ?_
    have n1 := T.ne_Text_Editor
    have n2 := T.ne_Part_Editor
    walk_at "rd_Fl"
    refine rd_dice ha fun r H0 S0 _ row0 => ?_
    have tab0 := (Kl.same S0).tabs tab
    clear ha tab
    walk_at "rd_Fl"
    refine rd_some row0 (by decide) (by decide) (by decide) (by decide) fun le ms ss H1 k1 row1 el st ok z1 few zb _ => ?_
    have tab1 := (Kl.kp k1).tabs tab0
    clear row0 tab0 S0 k1
    walk_at "rd_Fl"
    refine rd_made (SqL.of el) st ok (by omega) fun b H2 S2 T2 => ?_
    walk_at "rd_Fl"
    refine rd_tupLS (SqL.of (S2 _ _ el)) (st.mono S2) fun p3 H3 S3 t3 => ?_
    walk_at "rd_Fl"
    intro l4 H4 S4 e4 _
    walk_at "rd_Fl"
    refine rd_edRep0 (t3.kp (.same S4)) e4 ok (by omega) fun H5 e S5 _ ed5 => ?_
    walk_at "rd_Fl"
    refine rd_mkReader (T2.kp (.same ((S3.trans S4).trans S5))) fun x h d H6 S6 nx nh nd R6 => ?_
    walk_at "rd_Fl"
    intro p7 H7 S7 e7 _
    refine rd_gtup (SqT.of e7) rfl ?_
    have S27 := ((((S2.trans S3).trans S4).trans S5).trans S6).trans S7
    have S37 := ((((S3.trans S4).trans S5).trans S6).trans S7)
    have row7 := row1.mono S27
    have tab7 := (Kl.same S27).tabs tab1
    have T7 := T2.kp (.same S37)
    have ed7 := ed5.same (S6.trans S7)
    have R7 := R6.same S7
    clear row1 tab1 el st S2 T2 S3 t3 S4 e4 S5 ed5 S6 R6 S7 e7 S27 S37
    walk_at "rd_Fl"
    refine ⟨ed7.insM, ?_⟩
    walk_at "rd_Fl"
    have lz : len1 (.wr "z") = 1 := by decide +kernel
    refine ⟨e, .str "z", ss, [], [], rfl, ed7, sml_word (by decide +kernel), by decide, .inl ⟨.wr "z", rfl, ⟨by decide +kernel, by decide +kernel, by decide +kernel⟩, by omega, by omega, fun H8 b8 ed8 => ?_⟩⟩
    obtain ⟨i0, ei, _⟩ := id ed7
    have km8 := Km.but (C := CEditor) (T := (TL p_law)) b8 ei.ins
    have R8 := R7.km n1 n2 (Ne.symm T.ne_Editor_KeyReader) km8
    have T8 := T7.km n1 n2 km8
    have tab8 := km8.tabs tab7
    clear R7 T7 tab7 ed7 ei b8 km8 row7
    have kl := kat_lt ok (show 0 < sz ss by omega)
    walk_at "rd_Fl"
    refine ⟨R8.insM, ?_⟩
    walk_at "rd_Fl"
    rw [show (0 : Int).toNat = 0 from rfl]
    obtain ⟨c1, c2⟩ := lat_let ok kl
    refine ⟨x, h, d, ss, id, [], [], 0, _, rfl, R8, by omega, c1, c2, (fun c' hc' => nomatch hc'), by decide, fun H9 B9 R9 => ?_⟩
    have kh := R8.kh (by omega) B9
    have ed9 := ed8.kh T.ne_Text_KeyReader T.ne_Part_KeyReader T.ne_Editor_KeyReader kh
    have tab9 := kh.tabs tab8
    clear R8 T8 tab8 ed8 kh B9
    walk_at "rd_Fl"
    refine rd_mkL tab9 fun f1 H10 x10 nf1 il1 => ?_
    walk_at "rd_Fl"
    refine rd_mkL (x10.tabs tab9) fun f2 H11 x11 nf2 il2 => ?_
    walk_at "rd_Fl"
    refine rd_mkL (x11.tabs (x10.tabs tab9)) fun f3 H12 x12 nf3 il3 => ?_
    walk_at "rd_Fl"
    intro lw H13 S13 e13 _
    obtain ⟨os, hos⟩ : ∃ os, os = [Op.st (.wr "z")] := ⟨_, rfl⟩
    obtain ⟨ob, hob⟩ : ∃ ob, ob = [Obs.see 0 (lat ss (kat ss 0))] := ⟨_, rfl⟩
    obtain ⟨ls, hls⟩ : ∃ ls, ls = putL [] (id (kat ss 0)) (lat ss (kat ss 0)) := ⟨_, rfl⟩
    obtain ⟨L, hL⟩ : ∃ L, L = (openH id ls (tyL ss).length).map (fstP ss) := ⟨_, rfl⟩
    have S913 : Kx (TL p_law) H9 H13 := ((x10.trans x11).trans x12).trans (.same S13)
    have ed13 : EdAt K CText CPart CEditor H13 e (ss ++ [.wr "z"]) [⟨.st (.wr "z"), ss, ss ++ [.wr "z"]⟩] [] := ed9.kl n1 n2 S913.kl
    have R13 : Reader K CText CPart CKeyReader H13 x h d ss id ls ob := by
      rw [hls, hob]; exact R9.kl S913.kl
    have j1 := il1.kl (((x11.trans x12).trans (.same S13)).kl)
    have j2 := il2.kl ((x12.trans (.same S13)).kl)
    have j3 := il3.kl (Kl.same (T := (TL p_law)) S13)
    have ty := tyL_small ok
    have oL := openH_len id ls (tyL ss).length
    have lL : L.length ≤ 1000 := by rw [hL, List.length_map]; omega
    clear R9 ed9 tab9 x10 x11 x12 nf1 nf2 nf3 il1 il2 il3 S13 S913
    walk_at "rd_Fl"
    refine ⟨⟨_, SqL.of e13⟩, fun D hD => lc_relE (it := fun i => ([V.ref f1, .ref f2, .ref f3][i]?).getD .non) (n := 3) (plain_list (SqL.of e13)) hD (by rw [sizeLine_eq]; decide) (fun _ => rfl) (fun i y H' => ∃ a, y = .ref a ∧ (a ≠ D ∧ H13 a = none) ∧ Got K os ob L i a H') (fun i y Ha Hb l eD B ⟨a, e1, e2, g⟩ => ⟨a, e1, e2, g.but eD B e2.1⟩) (fun i Ha Qa hi Sa eD q => ?_) fun H14 ys S14 eD yl ans => ?_⟩
    · have eda := ed13.same Sa
      have Ra := R13.same Sa
      match i, hi with
      | 0, _ =>
        refine ⟨f1, _, rfl, j1.kl (Kl.same (T := []) Sa), ?_⟩
        walk_at "rd_Fl"
        refine rd_edHist eda (by show 1 ≤ 10000; decide) fun Hb l m Sb nb eb o => ?_
        exact q _ _ Sb ⟨l, rfl, ⟨fun z => eD (z ▸ nb), Same.back Sa nb⟩, ⟨m, eb, hos ▸ o⟩⟩
      | 1, _ =>
        refine ⟨f2, _, rfl, j2.kl (Kl.same (T := []) Sa), ?_⟩
        walk_at "rd_Fl"
        refine rd_rdObs Ra (by rw [hob]; show 1 ≤ 10000; decide) fun Hb l m Sb nb eb o => ?_
        exact q _ _ Sb ⟨l, rfl, ⟨fun z => eD (z ▸ nb), Same.back Sa nb⟩, ⟨m, eb, o⟩⟩
      | 2, _ =>
        refine ⟨f3, _, rfl, j3.kl (Kl.same (T := []) Sa), ?_⟩
        walk_at "rd_Fl"
        refine ⟨Ra.insM, ?_⟩
        walk_at "rd_Fl"
        refine ⟨x, h, d, ss, id, ls, ob, rfl, Ra, fun Hb l Sb nb eb => ?_⟩
        exact q _ _ Sb ⟨l, rfl, ⟨fun z => eD (z ▸ nb), Same.back Sa nb⟩, by rw [← hL] at eb; exact eb⟩
    · walk_at "rd_Fl"
      obtain ⟨l0, l1, l2, G14, ⟨a0, b0⟩, ⟨a1, b1⟩, a2, b2⟩ := gots_of eD yl (fun a => a ≠ D ∧ H13 a = none) ans
      clear ans eD yl
      refine rd_rdKnown (R13.same S14) fun H15 dk S15 nk ek => ?_
      have G15 := G14.same S15
      have S1315 := S14.trans S15
      have ndk := Same.back S14 nk
      clear G14 S14
      refine ⟨_, _, rfl, ?_⟩
      walk_at "rd_Fl"
      refine ⟨⟨_, SqL.of G15.el⟩, fun D2 hD2 => lc_relE (it := fun i => ([V.ref l0, .ref l1, .ref l2][i]?).getD .non) (n := 3) (plain_list (SqL.of G15.el)) hD2 (by rw [sizeLine_eq]; decide) (fun _ => rfl) (fun i y H' => ∃ a, y = .ref a ∧ (a ≠ D2 ∧ H15 a = none) ∧ Got K os ob L i a H') (fun i y Ha Hb l eD B ⟨a, e1, e2, g⟩ => ⟨a, e1, e2, g.but eD B e2.1⟩) (fun i Ha Qa hi Sa eD q => ?_) fun H16 ys S16 eD2 yl ans => ?_⟩
      · have Ga := G15.same Sa
        have o1 : os.length ≤ 1000 := by rw [hos]; show 1 ≤ 1000; decide
        have o2 : ob.length ≤ 1000 := by rw [hob]; show 1 ≤ 1000; decide
        match i, hi with
        | 0, _ =>
          obtain ⟨m, em, lm⟩ := Ga.g0.lst o1 o2 lL
          walk_at "rd_Fl"
          refine rd_list_lst (SqL.of em) fun l hl => ?_
          have Sl : Same Ha (upd Ha l (.lst m)) := Same.new (Same.refl _) hl
          exact q _ _ Sl ⟨l, rfl, ⟨fun z => eD (z ▸ hl), Same.back Sa hl⟩, Ga.g0.copy em Sl upd_same⟩
        | 1, _ =>
          obtain ⟨m, em, lm⟩ := Ga.g1.lst o1 o2 lL
          walk_at "rd_Fl"
          refine rd_list_lst (SqL.of em) fun l hl => ?_
          have Sl : Same Ha (upd Ha l (.lst m)) := Same.new (Same.refl _) hl
          exact q _ _ Sl ⟨l, rfl, ⟨fun z => eD (z ▸ hl), Same.back Sa hl⟩, Ga.g1.copy em Sl upd_same⟩
        | 2, _ =>
          obtain ⟨m, em, lm⟩ := Ga.g2.lst o1 o2 lL
          walk_at "rd_Fl"
          refine rd_list_lst (SqL.of em) fun l hl => ?_
          have Sl : Same Ha (upd Ha l (.lst m)) := Same.new (Same.refl _) hl
          exact q _ _ Sl ⟨l, rfl, ⟨fun z => eD (z ▸ hl), Same.back Sa hl⟩, Ga.g2.copy em Sl upd_same⟩
      · obtain ⟨m0, m1, m2, K16, ⟨c0, d0⟩, ⟨c1, d1⟩, c2, d2⟩ := gots_of eD2 yl (fun a => a ≠ D2 ∧ H15 a = none) ans
        clear ans eD2 yl
        walk_at "rd_Fl"
        refine ⟨dk, _, rfl, .inl (S16 _ _ ek), fun ds nds => ?_⟩
        have S17 : Same H16 (upd H16 ds (.dK (kvM (knownL id ls (tyL ss).length)))) := Same.new (Same.refl _) nds
        have e17 : upd H16 ds (.dK (kvM (knownL id ls (tyL ss).length))) ds = some (.dK (kvM (knownL id ls (tyL ss).length))) := upd_same
        revert S17 e17
        generalize upd H16 ds (.dK (kvM (knownL id ls (tyL ss).length))) = H17
        intro S17 e17
        have o1 : os.length ≤ 1000 := by rw [hos]; show 1 ≤ 1000; decide
        have o2 : ob.length ≤ 1000 := by rw [hob]; show 1 ≤ 1000; decide
        have G16 := G15.same S16
        have G17 := G16.same S17
        have K17 := K16.same S17
        have ek17 := S17 _ _ (S16 _ _ ek)
        obtain ⟨x0, t0, u0⟩ := G15.g0.lst o1 o2 lL
        obtain ⟨x1, t1, u1⟩ := G15.g1.lst o1 o2 lL
        obtain ⟨x2, t2, u2⟩ := G15.g2.lst o1 o2 lL
        have hA17 : ∀ b ∈ [l0, l1, l2], ∃ ms, H17 b = some (.lst ms) ∧ ms.length ≤ 1000 + 0 := by
          intro b hb
          simp only [List.mem_cons, List.not_mem_nil, or_false] at hb
          rcases hb with rfl | rfl | rfl
          · exact ⟨_, S17 _ _ (S16 _ _ t0), u0⟩
          · exact ⟨_, S17 _ _ (S16 _ _ t1), u1⟩
          · exact ⟨_, S17 _ _ (S16 _ _ t2), u2⟩
        have nA : ∀ b, H15 b = none → b ∉ [l0, l1, l2, dk] := by
          intro b hb z
          simp only [List.mem_cons, List.not_mem_nil, or_false] at z
          rcases z with rfl | rfl | rfl | rfl
          · rw [t0] at hb; cases hb
          · rw [t1] at hb; cases hb
          · rw [t2] at hb; cases hb
          · rw [ek] at hb; cases hb
        have nDk : dk ∉ [l0, l1, l2] := by
          intro z
          simp only [List.mem_cons, List.not_mem_nil, or_false] at z
          rcases z with rfl | rfl | rfl
          · rw [t0] at ek; cases ek
          · rw [t1] at ek; cases ek
          · rw [t2] at ek; cases ek
        have nD : D ∉ [l0, l1, l2] := by simp [Ne.symm a0, Ne.symm a1, Ne.symm a2]
        have h13 : ∀ b ∈ [l0, l1, l2, dk], H13 b = none := by
          intro b hb
          simp only [List.mem_cons, List.not_mem_nil, or_false] at hb
          rcases hb with rfl | rfl | rfl | rfl
          · exact b0
          · exact b1
          · exact b2
          · exact ndk
        have hB17 : ∀ b ∈ [l0, l1, l2, dk], (∃ ms, H17 b = some (.lst ms)) ∨ ∃ kvs, H17 b = some (.dK kvs) := by
          intro b hb
          simp only [List.mem_cons, List.not_mem_nil, or_false] at hb
          rcases hb with rfl | rfl | rfl | rfl
          · exact .inl ⟨_, S17 _ _ (S16 _ _ t0)⟩
          · exact .inl ⟨_, S17 _ _ (S16 _ _ t1)⟩
          · exact .inl ⟨_, S17 _ _ (S16 _ _ t2)⟩
          · exact .inr ⟨_, ek17⟩
        have nds15 : ds ∉ [l0, l1, l2, dk] := nA ds (Same.back S16 nds)
        have S1317 := (S1315.trans S16).trans S17
        walk_at "rd_Fl"
        refine ⟨⟨_, SqL.of G17.el⟩, for_list (xs := [.ref l0, .ref l1, .ref l2]) (fun i σ H' => ∃ v9, σ = [some (.ref a), some (.ref r), some (.ref le), some (.ref b), some (.ref e), some (.ref x), some (.ref lw), some (.ref D), some (.ref dk), v9, some (.ref D2), some (.ref ds), none] ∧ Bt [l0, l1, l2] H17 H' ∧ ∀ b ∈ [l0, l1, l2], ∃ ms, H' b = some (.lst ms) ∧ ms.length ≤ 1000 + i) ⟨_, rfl, Bt.refl, hA17⟩ (fun i σ H' _ ⟨_, _, B, _⟩ => SqL.of (B _ _ nD G17.el)) ?_ ?_⟩
        · rintro i v σ H' hv ⟨v9, rfl, B, hA⟩
          obtain ⟨a', rfl, ha'⟩ : ∃ a', v = .ref a' ∧ a' ∈ [l0, l1, l2] := by
            match i, hv with
            | 0, hv => cases hv; exact ⟨l0, rfl, by simp⟩
            | 1, hv => cases hv; exact ⟨l1, rfl, by simp⟩
            | 2, hv => cases hv; exact ⟨l2, rfl, by simp⟩
            | i + 3, hv => simp at hv
          obtain ⟨m, em, lm⟩ := hA a' ha'
          have i3 : i < 3 := (List.getElem?_eq_some_iff.mp hv).1
          walk_at "rd_Fl"
          refine rd_tyL (SqL.of em) _ ?_
          walk_at "rd_Fl"
          refine rd_append em (by rw [sizeLine_eq]; omega) ?_
          obtain ⟨B', hA'⟩ := three_app (v := .str "changed") hA ha' em
          exact ⟨_, rfl, B.trans B', hA'⟩
        · rintro σ H18 ⟨v9, rfl, B18, _⟩
          walk_at "rd_Fl"
          refine rd_dput ?_
          walk_at "rd_Fl"
          have kl2 : (kvM (knownL id ls (tyL ss).length)).length < 16777216 := by
            unfold kvM knownL
            rw [List.length_map]
            have := List.length_filterMap_le (fun k => (gL ls (id k)).map fun c => (k, c)) (List.range (tyL ss).length)
            rw [List.length_range] at this
            omega
          refine ⟨dk, _, rfl, DPut.k (k := (Sum.inl 99 : Key)) (B18 _ _ nDk ek17) (by rw [sizeLine_eq]; exact kl2), ?_⟩
          have B19 : Bt [l0, l1, l2, dk] H17 (upd H18 dk (.dK (putK (kvM (knownL id ls (tyL ss).length)) (Sum.inl 99 : Key) (.str "z")))) :=
            (B18.up fun a ha => by simp only [List.mem_cons, List.not_mem_nil, or_false] at ha ⊢; rcases ha with h | h | h <;> simp [h]).trans (Bt.but (But.at But.refl) (by simp))
          revert B19
          generalize upd H18 dk _ = H19
          intro B19
          have S1319 : Same H13 H19 := Bt.fresh S1317 B19 h13
          have K19 : Gots K os ob L H19 D2 m0 m1 m2 := ⟨B19 _ _ (nA _ hD2) K17.el, K17.g0.bt B19 (nA _ d0) hB17, K17.g1.bt B19 (nA _ d1) hB17, K17.g2.bt B19 (nA _ d2) hB17⟩
          have e19 := B19 _ _ nds15 e17
          have e13' := S1319 _ _ e13
          have ed19 := ed13.same S1319
          have R19 := R13.same S1319
          have q1 := j1.kl (Kl.same (T := []) S1319)
          have q2 := j2.kl (Kl.same (T := []) S1319)
          have q3 := j3.kl (Kl.same (T := []) S1319)
          clear hA17 nA nDk nD h13 hB17 nds15 S1317 t0 t1 t2 u0 u1 u2 G15 G16 G17 K16 K17 ek ek17 e17 S16 S17 S1315 e13 ed13 R13 j1 j2 j3 B18 B19 S1319
          walk_at "rd_Fl"
          refine ⟨⟨_, SqL.of e13'⟩, fun D3 hD3 => lc_relE (it := fun i => ([V.ref f1, .ref f2, .ref f3][i]?).getD .non) (n := 3) (plain_list (SqL.of e13')) hD3 (by rw [sizeLine_eq]; decide) (fun _ => rfl) (fun i y H' => ∃ a, y = .ref a ∧ (a ≠ D3 ∧ H19 a = none) ∧ Got K os ob L i a H') (fun i y Ha Hb l eD B ⟨a, e1, e2, g⟩ => ⟨a, e1, e2, g.but eD B e2.1⟩) (fun i Ha Qa hi Sa eD q => ?_) fun H20 ys S20 eD3 yl ans => ?_⟩
          · have eda := ed19.same Sa
            have Ra := R19.same Sa
            match i, hi with
            | 0, _ =>
              refine ⟨f1, _, rfl, q1.kl (Kl.same (T := []) Sa), ?_⟩
              walk_at "rd_Fl"
              refine rd_edHist eda (by show 1 ≤ 10000; decide) fun Hb l m Sb nb eb o => ?_
              exact q _ _ Sb ⟨l, rfl, ⟨fun z => eD (z ▸ nb), Same.back Sa nb⟩, ⟨m, eb, hos ▸ o⟩⟩
            | 1, _ =>
              refine ⟨f2, _, rfl, q2.kl (Kl.same (T := []) Sa), ?_⟩
              walk_at "rd_Fl"
              refine rd_rdObs Ra (by rw [hob]; show 1 ≤ 10000; decide) fun Hb l m Sb nb eb o => ?_
              exact q _ _ Sb ⟨l, rfl, ⟨fun z => eD (z ▸ nb), Same.back Sa nb⟩, ⟨m, eb, o⟩⟩
            | 2, _ =>
              refine ⟨f3, _, rfl, q3.kl (Kl.same (T := []) Sa), ?_⟩
              walk_at "rd_Fl"
              refine ⟨Ra.insM, ?_⟩
              walk_at "rd_Fl"
              refine ⟨x, h, d, ss, id, ls, ob, rfl, Ra, fun Hb l Sb nb eb => ?_⟩
              exact q _ _ Sb ⟨l, rfl, ⟨fun z => eD (z ▸ nb), Same.back Sa nb⟩, by rw [← hL] at eb; exact eb⟩
          · obtain ⟨w0, w1, w2, G20, _⟩ := gots_of eD3 yl (fun a => a ≠ D3 ∧ H19 a = none) ans
            clear ans eD3 yl
            walk_at "rd_Fl"
            have hz : okOp ss (.st (.wr "z")) := ⟨⟨by decide +kernel, by decide +kernel, by decide +kernel⟩, by omega, by omega⟩
            have la : len1 (.wr "a") = 1 := by decide +kernel
            have zz := sz_snoc ss (.wr "z")
            have ha : okOp (ss ++ [.wr "z"]) (.st (.wr "a")) := ⟨⟨by decide +kernel, by decide +kernel, by decide +kernel⟩, by rw [List.length_append]; show ss.length + 1 < 30; omega, by omega⟩
            have oks : ∀ o ∈ os, ∃ ss, okOp ss o := fun o ho => by rw [hos] at ho; rw [List.mem_singleton.mp ho]; exact ⟨ss, hz⟩
            have okb : ∀ o ∈ ob, ∀ p w, o = .word p w → w.length ≤ 1000 := fun o ho p w e => by rw [hob] at ho; rw [List.mem_singleton.mp ho] at e; cases e
            refine rd_likeX (Gots.alX (n := 1) G20 (K19.same S20) oks okb o1 o2 lL) fun H21 S21 => ?_
            walk_at "rd_Fl"
            refine rd_rdKnown (R19.same (S20.trans S21)) fun H22 dk2 S22 _ ek2 => ?_
            walk_at "rd_Fl"
            have S1922 := (S20.trans S21).trans S22
            refine rd_likeD (by decide) ek2 (S1922 _ _ e19) (kvM_flat (knownL_nd _ _ _)) fun H23 S23 => ?_
            have S1923 := S1922.trans S23
            have ed23 := ed19.same S1923
            have K23 := K19.same S1923
            clear G20 S20 S21 S22 S23 ek2 S1922 S1923 ed19 R19 K19 q1 q2 q3 e19 e13'
            walk_at "rd_Fl"
            refine rd_lmG ?_
            walk_at "rd_Fl"
            refine ⟨ed23.insM, ?_⟩
            walk_at "rd_Fl"
            intro q24 H24 S24 e24 _
            walk_at "rd_Fl"
            refine rd_sizes51 (o := .st (.wr "a")) (ed23.same S24) ⟨q24, rfl, SqT.of e24⟩ ha fun H25 S25 p26 n26 => ?_
            have S26 : Same H25 (upd H25 p26 (.lst (natV [sz (aft (ss ++ [.wr "z"]) (.st (.wr "a")))]))) := Same.new (Same.refl _) n26
            have e26 : upd H25 p26 (.lst (natV [sz (aft (ss ++ [.wr "z"]) (.st (.wr "a")))])) p26 = some (.lst (natV [sz (aft (ss ++ [.wr "z"]) (.st (.wr "a")))])) := upd_same
            revert S26 e26
            generalize upd H25 p26 _ = H26
            intro S26 e26
            have S2326 := (S24.trans S25).trans S26
            walk_at "rd_Fl"
            refine rd_lmG ?_
            walk_at "rd_Fl"
            refine ⟨(ed23.same S2326).insM, ?_⟩
            walk_at "rd_Fl"
            intro q27 H27 S27 e27 _
            walk_at "rd_Fl"
            refine rd_sizes51 (o := .st (.wr "a")) (ed23.same (S2326.trans S27)) ⟨q27, rfl, SqT.of e27⟩ ha fun H28 S28 p29 n29 => ?_
            have S29 : Same H28 (upd H28 p29 (.lst (natV [sz (aft (ss ++ [.wr "z"]) (.st (.wr "a")))]))) := Same.new (Same.refl _) n29
            have e29 : upd H28 p29 (.lst (natV [sz (aft (ss ++ [.wr "z"]) (.st (.wr "a")))])) p29 = some (.lst (natV [sz (aft (ss ++ [.wr "z"]) (.st (.wr "a")))])) := upd_same
            revert S29 e29
            generalize upd H28 p29 _ = H29
            intro S29 e29
            have S2629 := (S27.trans S28).trans S29
            walk_at "rd_Fl"
            intro lp H30 S30 e30 _
            walk_at "rd_Fl"
            refine rd_ixLn (j := 0) (SqL.of e30) rfl ?_
            walk_at "rd_Fl"
            refine rd_ixLn (j := 1) (SqL.of e30) rfl ?_
            refine rd_eqNN (S30 _ _ (S2629 _ _ e26)) (S30 _ _ e29) ?_
            rw [decide_eq_true rfl]
            have S2330 := (S2326.trans S2629).trans S30
            walk_at "rd_Fl"
            refine rd_edHist (ed23.same S2330) (by show 1 ≤ 10000; decide) fun H31 l31 m31 S31 _ e31 o31 => ?_
            have K31 := (K23.same S2330).same S31
            walk_at "rd_Fl"
            refine rd_ixLn (j := 0) (SqL.of K31.el) rfl ?_
            obtain ⟨m32, e32, o32⟩ := K31.g0
            rw [hos] at o32
            refine rd_eqOpsj e31 o31 e32 o32 (fun o ho => by rw [List.mem_singleton.mp ho]; exact ⟨ss, hz⟩) ?_
            exact k _
end
theorem bf_is_integer : BF "is_integer" "is_integer" s_is_integer ["value", "low", "high"] := fun _ _ _ _ _ _ us hl => match us, hl with | [_, _, _], _ => rfl
theorem bf_is_letter : BF "is_letter" "is_letter" s_is_letter ["value"] := fun _ _ _ _ _ _ us hl => match us, hl with | [_], _ => rfl
theorem bf_is_word : BF "is_word" "is_word" s_is_word ["value"] := fun _ _ _ _ _ _ us hl => match us, hl with | [_], _ => rfl
theorem bf_is_step : BF "is_step" "is_step" s_is_step ["value", "size"] := fun _ _ _ _ _ _ us hl => match us, hl with | [_, _], _ => rfl
theorem bf_Part_init : BF "__init__" "Part.__init__" s_Part_init ["self", "start", "length", "is_typed", "first", "last"] := fun _ _ _ _ _ _ us hl => match us, hl with | [_, _, _, _, _, _], _ => rfl
theorem bf_Part_source : BF "source" "Part.source" s_Part_source ["self", "place"] := fun _ _ _ _ _ _ us hl => match us, hl with | [_, _], _ => rfl
theorem bf_Text_init : BFS "__init__" "Text.__init__" s_Text_init ["self"] "steps" := fun _ _ _ _ _ _ us rest hl => match us, rest, hl with | [_], [], _ => rfl | [_], _ :: _, _ => rfl
theorem bf_Text_steps : BF "steps" "Text.steps" s_Text_steps ["self"] := fun _ _ _ _ _ _ us hl => match us, hl with | [_], _ => rfl
theorem bf_Text_typed_keys : BF "typed_keys" "Text.typed_keys" s_Text_typed_keys ["self"] := fun _ _ _ _ _ _ us hl => match us, hl with | [_], _ => rfl
theorem bf_Text_size : BF "size" "Text.size" s_Text_size ["self"] := fun _ _ _ _ _ _ us hl => match us, hl with | [_], _ => rfl
theorem bf_Text_check_place : BF "check_place" "Text.check_place" s_Text_check_place ["self", "place"] := fun _ _ _ _ _ _ us hl => match us, hl with | [_, _], _ => rfl
theorem bf_Text_check_key : BF "check_key" "Text.check_key" s_Text_check_key ["self", "key"] := fun _ _ _ _ _ _ us hl => match us, hl with | [_, _], _ => rfl
theorem bf_Text_key_of : BF "key_of" "Text.key_of" s_Text_key_of ["self", "place"] := fun _ _ _ _ _ _ us hl => match us, hl with | [_, _], _ => rfl
theorem bf_Text_call : BF "__call__" "Text.__call__" s_Text_call ["self", "place"] := fun _ _ _ _ _ _ us hl => match us, hl with | [_, _], _ => rfl
theorem bf_Text_getitem : BF "__getitem__" "Text.__getitem__" s_Text_getitem ["self", "place"] := fun _ _ _ _ _ _ us hl => match us, hl with | [_, _], _ => rfl
theorem bf_Text_retyped : BF "retyped" "Text.retyped" s_Text_retyped ["self", "key", "letter"] := fun _ _ _ _ _ _ us hl => match us, hl with | [_, _, _], _ => rfl
theorem bf_is_operation : BF "is_operation" "is_operation" s_is_operation ["value"] := fun _ _ _ _ _ _ us hl => match us, hl with | [_], _ => rfl
theorem bf_InvalidStep_init : BF "__init__" "InvalidStep.__init__" s_InvalidStep_init ["self", "index"] := fun _ _ _ _ _ _ us hl => match us, hl with | [_, _], _ => rfl
theorem bf_Counter_init : BF "__init__" "Counter.__init__" s_Counter_init ["self", "text"] := fun _ _ _ _ _ _ us hl => match us, hl with | [_, _], _ => rfl
theorem bf_Counter_before : BF "before" "Counter.before" s_Counter_before ["self", "place"] := fun _ _ _ _ _ _ us hl => match us, hl with | [_, _], _ => rfl
theorem bf_Counter_counts_before : BF "counts_before" "Counter.counts_before" s_Counter_counts_before ["self", "place"] := fun _ _ _ _ _ _ us hl => match us, hl with | [_, _], _ => rfl
theorem bf_check_range : BF "check_range" "check_range" s_check_range ["text", "first", "last"] := fun _ _ _ _ _ _ us hl => match us, hl with | [_, _, _], _ => rfl
theorem bf_key_counts : BF "key_counts" "key_counts" s_key_counts ["text", "first", "last"] := fun _ _ _ _ _ _ us hl => match us, hl with | [_, _, _], _ => rfl
theorem bf_Editor_init : BFS "__init__" "Editor.__init__" s_Editor_init ["self"] "steps" := fun _ _ _ _ _ _ us rest hl => match us, rest, hl with | [_], [], _ => rfl | [_], _ :: _, _ => rfl
theorem bf_Editor_enter : BF "enter" "Editor.enter" s_Editor_enter ["self", "operation", "after"] := fun _ _ _ _ _ _ us hl => match us, hl with | [_, _, _], _ => rfl
theorem bf_Editor_present_text : BF "present_text" "Editor.present_text" s_Editor_present_text ["self"] := fun _ _ _ _ _ _ us hl => match us, hl with | [_], _ => rfl
theorem bf_Editor_len : BF "__len__" "Editor.__len__" s_Editor_len ["self"] := fun _ _ _ _ _ _ us hl => match us, hl with | [_], _ => rfl
theorem bf_Editor_history : BF "history" "Editor.history" s_Editor_history ["self"] := fun _ _ _ _ _ _ us hl => match us, hl with | [_], _ => rfl
theorem bf_Editor_apply : BFS "apply" "Editor.apply" s_Editor_apply ["self"] "operations" := fun _ _ _ _ _ _ us rest hl => match us, rest, hl with | [_], [], _ => rfl | [_], _ :: _, _ => rfl
theorem bf_Editor_replay : BF "replay" "Editor.replay" s_Editor_replay ["cls", "steps", "operations"] := fun _ _ _ _ _ _ us hl => match us, hl with | [_, _, _], _ => rfl
theorem bf_Editor_add_step : BF "add_step" "Editor.add_step" s_Editor_add_step ["self", "step"] := fun _ _ _ _ _ _ us hl => match us, hl with | [_, _], _ => rfl
theorem bf_Editor_write : BF "write" "Editor.write" s_Editor_write ["self", "word"] := fun _ _ _ _ _ _ us hl => match us, hl with | [_, _], _ => rfl
theorem bf_Editor_paste : BF "paste" "Editor.paste" s_Editor_paste ["self", "first", "last", "times"] := fun _ _ _ _ _ _ us hl => match us, hl with | [_, _, _, _], _ => rfl
theorem bf_Editor_retype : BF "retype" "Editor.retype" s_Editor_retype ["self", "place", "letter"] := fun _ _ _ _ _ _ us hl => match us, hl with | [_, _, _], _ => rfl
theorem bf_Editor_execute : BF "execute" "Editor.execute" s_Editor_execute ["self", "operation"] := fun _ _ _ _ _ _ us hl => match us, hl with | [_, _], _ => rfl
theorem bf_Editor_sizes_after : BFS "sizes_after" "Editor.sizes_after" s_Editor_sizes_after ["self"] "operations" := fun _ _ _ _ _ _ us rest hl => match us, rest, hl with | [_], [], _ => rfl | [_], _ :: _, _ => rfl
theorem bf_KeyReader_init : BF "__init__" "KeyReader.__init__" s_KeyReader_init ["self", "text"] := fun _ _ _ _ _ _ us hl => match us, hl with | [_, _], _ => rfl
theorem bf_KeyReader_head : BF "head" "KeyReader.head" s_KeyReader_head ["self", "key"] := fun _ _ _ _ _ _ us hl => match us, hl with | [_, _], _ => rfl
theorem bf_KeyReader_accept_letter : BF "accept_letter" "KeyReader.accept_letter" s_KeyReader_accept_letter ["self", "key", "letter"] := fun _ _ _ _ _ _ us hl => match us, hl with | [_, _, _], _ => rfl
theorem bf_KeyReader_known_count : BF "known_count" "KeyReader.known_count" s_KeyReader_known_count ["self"] := fun _ _ _ _ _ _ us hl => match us, hl with | [_], _ => rfl
theorem bf_KeyReader_see : BF "see" "KeyReader.see" s_KeyReader_see ["self", "place", "letter"] := fun _ _ _ _ _ _ us hl => match us, hl with | [_, _, _], _ => rfl
theorem bf_KeyReader_known_letters : BF "known_letters" "KeyReader.known_letters" s_KeyReader_known_letters ["self"] := fun _ _ _ _ _ _ us hl => match us, hl with | [_], _ => rfl
theorem bf_KeyReader_observations : BF "observations" "KeyReader.observations" s_KeyReader_observations ["self"] := fun _ _ _ _ _ _ us hl => match us, hl with | [_], _ => rfl
theorem bf_KeyReader_open_heads : BF "open_heads" "KeyReader.open_heads" s_KeyReader_open_heads ["self"] := fun _ _ _ _ _ _ us hl => match us, hl with | [_], _ => rfl
theorem bf_KeyReader_first_place : BF "first_place" "KeyReader.first_place" s_KeyReader_first_place ["self", "head"] := fun _ _ _ _ _ _ us hl => match us, hl with | [_, _], _ => rfl
theorem bf_KeyReader_fewest_places : BF "fewest_places" "KeyReader.fewest_places" s_KeyReader_fewest_places ["self"] := fun _ _ _ _ _ _ us hl => match us, hl with | [_], _ => rfl
theorem bf_x_law_dice : BF "_law_dice" "_law_dice" s_x_law_dice ["_law_script"] := fun _ _ _ _ _ _ us hl => match us, hl with | [_], _ => rfl
theorem bf_x_law_next : BF "_law_next" "_law_next" s_x_law_next ["_law_dice_here", "_law_many"] := fun _ _ _ _ _ _ us hl => match us, hl with | [_, _], _ => rfl
theorem bf_x_law_pick : BF "_law_pick" "_law_pick" s_x_law_pick ["_law_d", "_law_some_here"] := fun _ _ _ _ _ _ us hl => match us, hl with | [_, _], _ => rfl
theorem bf_x_law_word : BF "_law_word" "_law_word" s_x_law_word ["_law_d"] := fun _ _ _ _ _ _ us hl => match us, hl with | [_], _ => rfl
theorem bf_x_law_drawn : BF "_law_drawn" "_law_drawn" s_x_law_drawn ["_law_d", "_law_total", "_law_most"] := fun _ _ _ _ _ _ us hl => match us, hl with | [_, _, _], _ => rfl
theorem bf_x_law_made : BF "_law_made" "_law_made" s_x_law_made ["_law_steps"] := fun _ _ _ _ _ _ us hl => match us, hl with | [_], _ => rfl
theorem bf_x_law_some : BF "_law_some" "_law_some" s_x_law_some ["_law_d", "_law_count", "_law_most"] := fun _ _ _ _ _ _ us hl => match us, hl with | [_, _, _], _ => rfl
theorem bf_x_law_like : BF "_law_like" "_law_like" s_x_law_like ["_law_found", "_law_due"] := fun _ _ _ _ _ _ us hl => match us, hl with | [_, _], _ => rfl
theorem bf_law : BF "law" "law" s_law ["_law_script"] := fun _ _ _ _ _ _ us hl => match us, hl with | [_], _ => rfl
theorem fin {q : Program} {l : PySem.W.OpenLaw} {w : World} {n : Nat} {K : PySem.W.Frag} {h : Heap} {mg : Str → Option Value} {fa CText CPart CCounter CEditor CKeyReader CTextError CInvalidStep CTooLong CInvalidPlace CInvalidLetter CARGUMENTS c_law p_law : Addr} (X : K.In h) (G : h.Ns mainGlobals mg) (A : AllTab q K mg h) (hmg : mg "law" = some (.ref fa))
    (gText : PySem.W.nsIn K mainGlobals "Text" = some (some (.ref CText)))
    (gPart : PySem.W.nsIn K mainGlobals "Part" = some (some (.ref CPart)))
    (gCounter : PySem.W.nsIn K mainGlobals "Counter" = some (some (.ref CCounter)))
    (gEditor : PySem.W.nsIn K mainGlobals "Editor" = some (some (.ref CEditor)))
    (gKeyReader : PySem.W.nsIn K mainGlobals "KeyReader" = some (some (.ref CKeyReader)))
    (gTextError : PySem.W.nsIn K mainGlobals "TextError" = some (some (.ref CTextError)))
    (gInvalidStep : PySem.W.nsIn K mainGlobals "InvalidStep" = some (some (.ref CInvalidStep)))
    (gTooLong : PySem.W.nsIn K mainGlobals "TooLong" = some (some (.ref CTooLong)))
    (gInvalidPlace : PySem.W.nsIn K mainGlobals "InvalidPlace" = some (some (.ref CInvalidPlace)))
    (gInvalidLetter : PySem.W.nsIn K mainGlobals "InvalidLetter" = some (some (.ref CInvalidLetter)))
    (gARGUMENTS : PySem.W.nsIn K mainGlobals "ARGUMENTS" = some (some (.ref CARGUMENTS)))
    (T : (mg "Text" = some (.ref CText) ∧ mg "Part" = some (.ref CPart) ∧ mg "Counter" = some (.ref CCounter) ∧ mg "Editor" = some (.ref CEditor) ∧ mg "KeyReader" = some (.ref CKeyReader) ∧ mg "TextError" = some (.ref CTextError) ∧ mg "InvalidStep" = some (.ref CInvalidStep) ∧ mg "TooLong" = some (.ref CTooLong) ∧ mg "InvalidPlace" = some (.ref CInvalidPlace) ∧ mg "InvalidLetter" = some (.ref CInvalidLetter) ∧ mg "ARGUMENTS" = some (.ref CARGUMENTS)) → Txt K mg CText CPart CCounter CEditor CKeyReader CTextError CInvalidStep CTooLong CInvalidPlace CInvalidLetter CARGUMENTS c_law p_law w)
    (hx_law : ((recsOf q).any fun e => e.name == ("law" : Str)) = true)
    : LamX.LawAtS l w K CX0 73 n "_law_script" mg fa h := by
  have T := T ⟨PySem.W.mg_of X G gText, PySem.W.mg_of X G gPart, PySem.W.mg_of X G gCounter, PySem.W.mg_of X G gEditor, PySem.W.mg_of X G gKeyReader, PySem.W.mg_of X G gTextError, PySem.W.mg_of X G gInvalidStep, PySem.W.mg_of X G gTooLong, PySem.W.mg_of X G gInvalidPlace, PySem.W.mg_of X G gInvalidLetter, PySem.W.mg_of X G gARGUMENTS⟩
  obtain ⟨f, fd, F, a, b⟩ := T.d_law
  have e := hmg.symm.trans a
  cases e
  refine ⟨fd, [(c_law, p_law)], sp_lawL K (TL p_law), ?_, ?_, ?_, fun s u => ?_, fun H a ns _ _ hT hS => ⟨a, ns, rfl, hS, ?_, fun _ => rfl⟩, fun base KB NB hT => ok_law T ?_ F⟩
  · intro p hp
    simp only [List.mem_cons, List.not_mem_nil, or_false] at hp
    rcases hp with rfl
    · exact T.t_law.empty A T.d_law hx_law
  · intro p hp
    simp only [List.mem_cons, List.not_mem_nil, or_false] at hp
    rcases hp with rfl
    · exact T.t_law.no
  · intro p hp
    simp only [List.mem_cons, List.not_mem_nil, or_false] at hp
    rcases hp with rfl
    · exact PySem.W.codeHd_of_K X T.t_law.hd
  · obtain ⟨oc, od, kV, doc, pm, an, ct, osl, rfl, lk, hcd⟩ := F.ex
    exact .of_eq (bf_law kV doc pm an (.ref c_law) ct [u] rfl)
  · intro p hp
    simp only [List.mem_cons, List.not_mem_nil, or_false] at hp
    rcases hp with rfl
    · exact LamX.TabS.nil (hT (c_law, p_law) (.head _))
  · refine ⟨hT (c_law, p_law) (.head _), ?_⟩
    · intro p hp e
      simp only [List.mem_cons, List.not_mem_nil, or_false] at hp
      rcases hp with rfl
      · rfl
end L2.Px
open PySem PySem.W PyProof.Rows
local macro_rules | `(tactic| o_head (kmHook $K:term $as:term $e:term $ts:term)) => `(tactic|
    refine L2.Px.head_km (q := L2.Px.qv) (ek := L2.Px.hd_as) (d := HeadRun.topDef PySem.Challenge.pw_pastekeys_k51_whole_repeated_calls 46) (kwd := []) "special-get-raises"
      (by kernel_rfl) (fun s => by kernel_rfl) L2.Px.hd_r0 L2.Px.hd_r1 (by kernel_rfl) (by kernel_rfl) (by kernel_rfl) (by rfl)
      (by first | assumption | decide +kernel) (by decide +kernel) ⟨rfl, rfl, rfl, rfl, rfl, by decide +kernel⟩ (by w_witness2) ?_)
set_option maxRecDepth 100000 in
set_option maxHeartbeats 0 in
theorem PySem.Challenge.cw_pastekeys_k51_whole_repeated_calls_holds : PySem.Challenge.rw_pastekeys_k51_whole_repeated_calls.Holds := by
  w_on; o_law; k_head
  k_fill
  refine L2.Px.walk_ofT (l := PySem.Challenge.rw_pastekeys_k51_whole_repeated_calls) (k := 73) (x := "_law_script") rfl (by decide) rfl ⟨rfl, by decide, by decide⟩ (fun w h Y => PySem.W.km_in_of Y) ?F
  case F =>
    intro w mg fa h KX G XL hmg AT
    refine' L2.Px.fin KX G AT hmg ?gText ?gPart ?gCounter ?gEditor ?gKeyReader ?gTextError ?gInvalidStep ?gTooLong ?gInvalidPlace ?gInvalidLetter ?gARGUMENTS ?t ?hx_law 
    (case gText => k_is)
    (case gPart => k_is)
    (case gCounter => k_is)
    (case gEditor => k_is)
    (case gKeyReader => k_is)
    (case gTextError => k_is)
    (case gInvalidStep => k_is)
    (case gTooLong => k_is)
    (case gInvalidPlace => k_is)
    (case gInvalidLetter => k_is)
    (case gARGUMENTS => k_is)
    case t =>
      intro gg
      obtain ⟨qText, qPart, qCounter, qEditor, qKeyReader, qTextError, qInvalidStep, qTooLong, qInvalidPlace, qInvalidLetter, qARGUMENTS⟩ := gg
      refine' L2.Px.Txt.mk ?d_is_integer ?d_is_letter ?d_is_word ?d_is_step ?d_Part_init ?d_Part_source ?d_Text_init ?d_Text_steps ?d_Text_typed_keys ?d_Text_size ?d_Text_check_place ?d_Text_check_key ?d_Text_key_of ?d_Text_call ?d_Text_getitem ?d_Text_retyped ?d_is_operation ?d_InvalidStep_init ?d_Counter_init ?d_Counter_before ?d_Counter_counts_before ?d_check_range ?d_key_counts ?d_Editor_init ?d_Editor_enter ?d_Editor_present_text ?d_Editor_len ?d_Editor_history ?d_Editor_apply ?d_Editor_replay ?d_Editor_add_step ?d_Editor_write ?d_Editor_paste ?d_Editor_retype ?d_Editor_execute ?d_Editor_sizes_after ?d_KeyReader_init ?d_KeyReader_head ?d_KeyReader_accept_letter ?d_KeyReader_known_count ?d_KeyReader_see ?d_KeyReader_known_letters ?d_KeyReader_observations ?d_KeyReader_open_heads ?d_KeyReader_first_place ?d_KeyReader_fewest_places ?d_x_law_dice ?d_x_law_next ?d_x_law_pick ?d_x_law_word ?d_x_law_drawn ?d_x_law_made ?d_x_law_some ?d_x_law_like ?d_law ?cText ?g_Text ?cPart ?g_Part ?cCounter ?g_Counter ?cEditor ?g_Editor ?cKeyReader ?g_KeyReader ?ne_Text_Part ?ne_Text_Counter ?ne_Text_Editor ?ne_Text_KeyReader ?ne_Part_Counter ?ne_Part_Editor ?ne_Part_KeyReader ?ne_Counter_Editor ?ne_Counter_KeyReader ?ne_Editor_KeyReader ?xb_TextError ?x_InvalidStep ?x_TooLong ?x_InvalidPlace ?x_InvalidLetter ?g_ARGUMENTS ?kd_ARGUMENTS ?t_law ?na_Part_start ?na_Part_length ?na_Part_is_typed ?na_Part_first ?na_Part_last ?na_Text_made ?na_Text_typed ?na_Text_parts ?na_Text_total ?na_Counter_text ?na_Counter_known ?na_Editor_present ?na_Editor_done ?na_Editor_undone ?na_Editor_is_open ?na_Editor_kept_present ?na_Editor_kept_done ?na_Editor_kept_undone ?na_KeyReader_source_text ?na_KeyReader_heads ?na_KeyReader_letters ?na_KeyReader_seen ?k_LETTERS ?k_MAX_WORD ?k_MAX_STEPS ?k_MAX_TIMES ?k_MAX_SIZE_texts ?n_isinstance ?n_int ?n_bool ?n_str ?n_len ?n_all ?n_tuple ?n_list ?n_range ?n_enumerate ?n_min ?n_max ?n_divmod ?n_sum ?n_zip ?n_sorted ?n_ValueError ?n_dict
      (case d_is_integer => open L2 L2.Px StX ClX in (refine' defG_mk KX G ?a ?l ?k ?b; (case a => k_is); (case l => (refine' atF ?l1 ?l2; (case l1 => k_is); (case l2 => k_is))); (case k => k_is); (case b => exact bf_is_integer)))
      (case d_is_letter => open L2 L2.Px StX ClX in (refine' defG_mk KX G ?a ?l ?k ?b; (case a => k_is); (case l => (refine' atF ?l1 ?l2; (case l1 => k_is); (case l2 => k_is))); (case k => k_is); (case b => exact bf_is_letter)))
      (case d_is_word => open L2 L2.Px StX ClX in (refine' defG_mk KX G ?a ?l ?k ?b; (case a => k_is); (case l => (refine' atF ?l1 ?l2; (case l1 => k_is); (case l2 => k_is))); (case k => k_is); (case b => exact bf_is_word)))
      (case d_is_step => open L2 L2.Px StX ClX in (refine' defG_mk KX G ?a ?l ?k ?b; (case a => k_is); (case l => (refine' atF ?l1 ?l2; (case l1 => k_is); (case l2 => k_is))); (case k => k_is); (case b => exact bf_is_step)))
      (case d_Part_init => open L2 L2.Px StX ClX in (refine' defK_mk ?mk ?a ?fn ?kc ?l ?k ?b; (case mk => k_is); (case a => k_is); (case fn => k_is); (case kc => k_is); (case l => (refine' atF ?l1 ?l2; (case l1 => k_is); (case l2 => k_is))); (case k => k_is); (case b => exact bf_Part_init)))
      (case d_Part_source => open L2 L2.Px StX ClX in (refine' defM_mk ?a ?fn ?l ?k ?b; (case a => k_is); (case fn => k_is); (case l => (refine' atF ?l1 ?l2; (case l1 => k_is); (case l2 => k_is))); (case k => k_is); (case b => exact bf_Part_source)))
      (case d_Text_init => open L2 L2.Px StX ClX in (refine' defKS_mk ?mk ?a ?fn ?kc ?l ?k ?b; (case mk => k_is); (case a => k_is); (case fn => k_is); (case kc => k_is); (case l => (refine' atF ?l1 ?l2; (case l1 => k_is); (case l2 => k_is))); (case k => k_is); (case b => exact bf_Text_init)))
      (case d_Text_steps => open L2 L2.Px StX ClX in (refine' defP_mk ?a ?g ?t ?r ?l ?k ?b; (case a => k_is); (case g => k_is); (case t => k_is); (case r => k_is); (case l => (refine' atF ?l1 ?l2; (case l1 => k_is); (case l2 => k_is))); (case k => k_is); (case b => exact bf_Text_steps)))
      (case d_Text_typed_keys => open L2 L2.Px StX ClX in (refine' defP_mk ?a ?g ?t ?r ?l ?k ?b; (case a => k_is); (case g => k_is); (case t => k_is); (case r => k_is); (case l => (refine' atF ?l1 ?l2; (case l1 => k_is); (case l2 => k_is))); (case k => k_is); (case b => exact bf_Text_typed_keys)))
      (case d_Text_size => open L2 L2.Px StX ClX in (refine' defP_mk ?a ?g ?t ?r ?l ?k ?b; (case a => k_is); (case g => k_is); (case t => k_is); (case r => k_is); (case l => (refine' atF ?l1 ?l2; (case l1 => k_is); (case l2 => k_is))); (case k => k_is); (case b => exact bf_Text_size)))
      (case d_Text_check_place => open L2 L2.Px StX ClX in (refine' defM_mk ?a ?fn ?l ?k ?b; (case a => k_is); (case fn => k_is); (case l => (refine' atF ?l1 ?l2; (case l1 => k_is); (case l2 => k_is))); (case k => k_is); (case b => exact bf_Text_check_place)))
      (case d_Text_check_key => open L2 L2.Px StX ClX in (refine' defM_mk ?a ?fn ?l ?k ?b; (case a => k_is); (case fn => k_is); (case l => (refine' atF ?l1 ?l2; (case l1 => k_is); (case l2 => k_is))); (case k => k_is); (case b => exact bf_Text_check_key)))
      (case d_Text_key_of => open L2 L2.Px StX ClX in (refine' defM_mk ?a ?fn ?l ?k ?b; (case a => k_is); (case fn => k_is); (case l => (refine' atF ?l1 ?l2; (case l1 => k_is); (case l2 => k_is))); (case k => k_is); (case b => exact bf_Text_key_of)))
      (case d_Text_call => open L2 L2.Px StX ClX in (refine' defX_mk ?r ?l ?k ?b; (case r => (refine' CallO.mk ?r1 ?r2 ?r3; (case r1 => k_is); (case r2 => k_is); (case r3 => k_is))); (case l => (refine' atF ?l1 ?l2; (case l1 => k_is); (case l2 => k_is))); (case k => k_is); (case b => exact bf_Text_call)))
      (case d_Text_getitem => open L2 L2.Px StX ClX in (refine' defX_mk ?r ?l ?k ?b; (case r => (refine' IOwn.mk ?r1 ?r2 ?r3; (case r1 => k_is); (case r2 => k_is); (case r3 => k_is))); (case l => (refine' atF ?l1 ?l2; (case l1 => k_is); (case l2 => k_is))); (case k => k_is); (case b => exact bf_Text_getitem)))
      (case d_Text_retyped => open L2 L2.Px StX ClX in (refine' defM_mk ?a ?fn ?l ?k ?b; (case a => k_is); (case fn => k_is); (case l => (refine' atF ?l1 ?l2; (case l1 => k_is); (case l2 => k_is))); (case k => k_is); (case b => exact bf_Text_retyped)))
      (case d_is_operation => open L2 L2.Px StX ClX in (refine' defG_mk KX G ?a ?l ?k ?b; (case a => k_is); (case l => (refine' atF ?l1 ?l2; (case l1 => k_is); (case l2 => k_is))); (case k => k_is); (case b => exact bf_is_operation)))
      (case d_InvalidStep_init => open L2 L2.Px StX ClX in (refine' defI_mk ?a ?t ?l ?k ?b; (case a => k_is); (case t => k_is); (case l => (refine' atF ?l1 ?l2; (case l1 => k_is); (case l2 => k_is))); (case k => k_is); (case b => exact bf_InvalidStep_init)))
      (case d_Counter_init => open L2 L2.Px StX ClX in (refine' defK_mk ?mk ?a ?fn ?kc ?l ?k ?b; (case mk => k_is); (case a => k_is); (case fn => k_is); (case kc => k_is); (case l => (refine' atF ?l1 ?l2; (case l1 => k_is); (case l2 => k_is))); (case k => k_is); (case b => exact bf_Counter_init)))
      (case d_Counter_before => open L2 L2.Px StX ClX in (refine' defM_mk ?a ?fn ?l ?k ?b; (case a => k_is); (case fn => k_is); (case l => (refine' atF ?l1 ?l2; (case l1 => k_is); (case l2 => k_is))); (case k => k_is); (case b => exact bf_Counter_before)))
      (case d_Counter_counts_before => open L2 L2.Px StX ClX in (refine' defM_mk ?a ?fn ?l ?k ?b; (case a => k_is); (case fn => k_is); (case l => (refine' atF ?l1 ?l2; (case l1 => k_is); (case l2 => k_is))); (case k => k_is); (case b => exact bf_Counter_counts_before)))
      (case d_check_range => open L2 L2.Px StX ClX in (refine' defG_mk KX G ?a ?l ?k ?b; (case a => k_is); (case l => (refine' atF ?l1 ?l2; (case l1 => k_is); (case l2 => k_is))); (case k => k_is); (case b => exact bf_check_range)))
      (case d_key_counts => open L2 L2.Px StX ClX in (refine' defG_mk KX G ?a ?l ?k ?b; (case a => k_is); (case l => (refine' atF ?l1 ?l2; (case l1 => k_is); (case l2 => k_is))); (case k => k_is); (case b => exact bf_key_counts)))
      (case d_Editor_init => open L2 L2.Px StX ClX in (refine' defKS_mk ?mk ?a ?fn ?kc ?l ?k ?b; (case mk => k_is); (case a => k_is); (case fn => k_is); (case kc => k_is); (case l => (refine' atF ?l1 ?l2; (case l1 => k_is); (case l2 => k_is))); (case k => k_is); (case b => exact bf_Editor_init)))
      (case d_Editor_enter => open L2 L2.Px StX ClX in (refine' defM_mk ?a ?fn ?l ?k ?b; (case a => k_is); (case fn => k_is); (case l => (refine' atF ?l1 ?l2; (case l1 => k_is); (case l2 => k_is))); (case k => k_is); (case b => exact bf_Editor_enter)))
      (case d_Editor_present_text => open L2 L2.Px StX ClX in (refine' defP_mk ?a ?g ?t ?r ?l ?k ?b; (case a => k_is); (case g => k_is); (case t => k_is); (case r => k_is); (case l => (refine' atF ?l1 ?l2; (case l1 => k_is); (case l2 => k_is))); (case k => k_is); (case b => exact bf_Editor_present_text)))
      (case d_Editor_len => open L2 L2.Px StX ClX in (refine' defX_mk ?r ?l ?k ?b; (case r => (refine' LOwn.mk ?r1 ?r2; (case r1 => k_is); (case r2 => k_is))); (case l => (refine' atF ?l1 ?l2; (case l1 => k_is); (case l2 => k_is))); (case k => k_is); (case b => exact bf_Editor_len)))
      (case d_Editor_history => open L2 L2.Px StX ClX in (refine' defP_mk ?a ?g ?t ?r ?l ?k ?b; (case a => k_is); (case g => k_is); (case t => k_is); (case r => k_is); (case l => (refine' atF ?l1 ?l2; (case l1 => k_is); (case l2 => k_is))); (case k => k_is); (case b => exact bf_Editor_history)))
      (case d_Editor_apply => open L2 L2.Px StX ClX in (refine' defBS_mk ?r ?l ?k ?b; (case r => (refine' L2.BMeth.mk ?m1 ?m2 ?m3 ?m4 ?m5; (case m1 => (refine' L2.Meth.mk ?n1 ?n2 ?n3; (case n1 => k_is); (case n2 => k_is); (case n3 => k_is))); (case m2 => k_is); (case m3 => k_is); (case m4 => decide +kernel); (case m5 => k_is))); (case l => (refine' atF ?l1 ?l2; (case l1 => k_is); (case l2 => k_is))); (case k => k_is); (case b => exact bf_Editor_apply)))
      (case d_Editor_replay => open L2 L2.Px StX ClX in (refine' defC_mk (mc := .type "type") ?rd ?ga ?a ?r ?fi ?l ?k ?b; (case rd => k_is); (case ga => k_is); (case a => k_is); (case r => k_is); (case fi => k_is); (case l => (refine' atF ?l1 ?l2; (case l1 => k_is); (case l2 => k_is))); (case k => k_is); (case b => exact bf_Editor_replay)))
      (case d_Editor_add_step => open L2 L2.Px StX ClX in (refine' defM_mk ?a ?fn ?l ?k ?b; (case a => k_is); (case fn => k_is); (case l => (refine' atF ?l1 ?l2; (case l1 => k_is); (case l2 => k_is))); (case k => k_is); (case b => exact bf_Editor_add_step)))
      (case d_Editor_write => open L2 L2.Px StX ClX in (refine' defB_mk ?r ?l ?k ?b; (case r => (refine' L2.BMeth.mk ?m1 ?m2 ?m3 ?m4 ?m5; (case m1 => (refine' L2.Meth.mk ?n1 ?n2 ?n3; (case n1 => k_is); (case n2 => k_is); (case n3 => k_is))); (case m2 => k_is); (case m3 => k_is); (case m4 => decide +kernel); (case m5 => k_is))); (case l => (refine' atF ?l1 ?l2; (case l1 => k_is); (case l2 => k_is))); (case k => k_is); (case b => exact bf_Editor_write)))
      (case d_Editor_paste => open L2 L2.Px StX ClX in (refine' defB_mk ?r ?l ?k ?b; (case r => (refine' L2.BMeth.mk ?m1 ?m2 ?m3 ?m4 ?m5; (case m1 => (refine' L2.Meth.mk ?n1 ?n2 ?n3; (case n1 => k_is); (case n2 => k_is); (case n3 => k_is))); (case m2 => k_is); (case m3 => k_is); (case m4 => decide +kernel); (case m5 => k_is))); (case l => (refine' atF ?l1 ?l2; (case l1 => k_is); (case l2 => k_is))); (case k => k_is); (case b => exact bf_Editor_paste)))
      (case d_Editor_retype => open L2 L2.Px StX ClX in (refine' defB_mk ?r ?l ?k ?b; (case r => (refine' L2.BMeth.mk ?m1 ?m2 ?m3 ?m4 ?m5; (case m1 => (refine' L2.Meth.mk ?n1 ?n2 ?n3; (case n1 => k_is); (case n2 => k_is); (case n3 => k_is))); (case m2 => k_is); (case m3 => k_is); (case m4 => decide +kernel); (case m5 => k_is))); (case l => (refine' atF ?l1 ?l2; (case l1 => k_is); (case l2 => k_is))); (case k => k_is); (case b => exact bf_Editor_retype)))
      (case d_Editor_execute => open L2 L2.Px StX ClX in (refine' defM_mk ?a ?fn ?l ?k ?b; (case a => k_is); (case fn => k_is); (case l => (refine' atF ?l1 ?l2; (case l1 => k_is); (case l2 => k_is))); (case k => k_is); (case b => exact bf_Editor_execute)))
      (case d_Editor_sizes_after => open L2 L2.Px StX ClX in (refine' defBS_mk ?r ?l ?k ?b; (case r => (refine' L2.BMeth.mk ?m1 ?m2 ?m3 ?m4 ?m5; (case m1 => (refine' L2.Meth.mk ?n1 ?n2 ?n3; (case n1 => k_is); (case n2 => k_is); (case n3 => k_is))); (case m2 => k_is); (case m3 => k_is); (case m4 => decide +kernel); (case m5 => k_is))); (case l => (refine' atF ?l1 ?l2; (case l1 => k_is); (case l2 => k_is))); (case k => k_is); (case b => exact bf_Editor_sizes_after)))
      (case d_KeyReader_init => open L2 L2.Px StX ClX in (refine' defK_mk ?mk ?a ?fn ?kc ?l ?k ?b; (case mk => k_is); (case a => k_is); (case fn => k_is); (case kc => k_is); (case l => (refine' atF ?l1 ?l2; (case l1 => k_is); (case l2 => k_is))); (case k => k_is); (case b => exact bf_KeyReader_init)))
      (case d_KeyReader_head => open L2 L2.Px StX ClX in (refine' defM_mk ?a ?fn ?l ?k ?b; (case a => k_is); (case fn => k_is); (case l => (refine' atF ?l1 ?l2; (case l1 => k_is); (case l2 => k_is))); (case k => k_is); (case b => exact bf_KeyReader_head)))
      (case d_KeyReader_accept_letter => open L2 L2.Px StX ClX in (refine' defM_mk ?a ?fn ?l ?k ?b; (case a => k_is); (case fn => k_is); (case l => (refine' atF ?l1 ?l2; (case l1 => k_is); (case l2 => k_is))); (case k => k_is); (case b => exact bf_KeyReader_accept_letter)))
      (case d_KeyReader_known_count => open L2 L2.Px StX ClX in (refine' defM_mk ?a ?fn ?l ?k ?b; (case a => k_is); (case fn => k_is); (case l => (refine' atF ?l1 ?l2; (case l1 => k_is); (case l2 => k_is))); (case k => k_is); (case b => exact bf_KeyReader_known_count)))
      (case d_KeyReader_see => open L2 L2.Px StX ClX in (refine' defM_mk ?a ?fn ?l ?k ?b; (case a => k_is); (case fn => k_is); (case l => (refine' atF ?l1 ?l2; (case l1 => k_is); (case l2 => k_is))); (case k => k_is); (case b => exact bf_KeyReader_see)))
      (case d_KeyReader_known_letters => open L2 L2.Px StX ClX in (refine' defP_mk ?a ?g ?t ?r ?l ?k ?b; (case a => k_is); (case g => k_is); (case t => k_is); (case r => k_is); (case l => (refine' atF ?l1 ?l2; (case l1 => k_is); (case l2 => k_is))); (case k => k_is); (case b => exact bf_KeyReader_known_letters)))
      (case d_KeyReader_observations => open L2 L2.Px StX ClX in (refine' defP_mk ?a ?g ?t ?r ?l ?k ?b; (case a => k_is); (case g => k_is); (case t => k_is); (case r => k_is); (case l => (refine' atF ?l1 ?l2; (case l1 => k_is); (case l2 => k_is))); (case k => k_is); (case b => exact bf_KeyReader_observations)))
      (case d_KeyReader_open_heads => open L2 L2.Px StX ClX in (refine' defM_mk ?a ?fn ?l ?k ?b; (case a => k_is); (case fn => k_is); (case l => (refine' atF ?l1 ?l2; (case l1 => k_is); (case l2 => k_is))); (case k => k_is); (case b => exact bf_KeyReader_open_heads)))
      (case d_KeyReader_first_place => open L2 L2.Px StX ClX in (refine' defM_mk ?a ?fn ?l ?k ?b; (case a => k_is); (case fn => k_is); (case l => (refine' atF ?l1 ?l2; (case l1 => k_is); (case l2 => k_is))); (case k => k_is); (case b => exact bf_KeyReader_first_place)))
      (case d_KeyReader_fewest_places => open L2 L2.Px StX ClX in (refine' defM_mk ?a ?fn ?l ?k ?b; (case a => k_is); (case fn => k_is); (case l => (refine' atF ?l1 ?l2; (case l1 => k_is); (case l2 => k_is))); (case k => k_is); (case b => exact bf_KeyReader_fewest_places)))
      (case d_x_law_dice => open L2 L2.Px StX ClX in (refine' defG_mk KX G ?a ?l ?k ?b; (case a => k_is); (case l => (refine' atF ?l1 ?l2; (case l1 => k_is); (case l2 => k_is))); (case k => k_is); (case b => exact bf_x_law_dice)))
      (case d_x_law_next => open L2 L2.Px StX ClX in (refine' defG_mk KX G ?a ?l ?k ?b; (case a => k_is); (case l => (refine' atF ?l1 ?l2; (case l1 => k_is); (case l2 => k_is))); (case k => k_is); (case b => exact bf_x_law_next)))
      (case d_x_law_pick => open L2 L2.Px StX ClX in (refine' defG_mk KX G ?a ?l ?k ?b; (case a => k_is); (case l => (refine' atF ?l1 ?l2; (case l1 => k_is); (case l2 => k_is))); (case k => k_is); (case b => exact bf_x_law_pick)))
      (case d_x_law_word => open L2 L2.Px StX ClX in (refine' defG_mk KX G ?a ?l ?k ?b; (case a => k_is); (case l => (refine' atF ?l1 ?l2; (case l1 => k_is); (case l2 => k_is))); (case k => k_is); (case b => exact bf_x_law_word)))
      (case d_x_law_drawn => open L2 L2.Px StX ClX in (refine' defG_mk KX G ?a ?l ?k ?b; (case a => k_is); (case l => (refine' atF ?l1 ?l2; (case l1 => k_is); (case l2 => k_is))); (case k => k_is); (case b => exact bf_x_law_drawn)))
      (case d_x_law_made => open L2 L2.Px StX ClX in (refine' defG_mk KX G ?a ?l ?k ?b; (case a => k_is); (case l => (refine' atF ?l1 ?l2; (case l1 => k_is); (case l2 => k_is))); (case k => k_is); (case b => exact bf_x_law_made)))
      (case d_x_law_some => open L2 L2.Px StX ClX in (refine' defG_mk KX G ?a ?l ?k ?b; (case a => k_is); (case l => (refine' atF ?l1 ?l2; (case l1 => k_is); (case l2 => k_is))); (case k => k_is); (case b => exact bf_x_law_some)))
      (case d_x_law_like => open L2 L2.Px StX ClX in (refine' defG_mk KX G ?a ?l ?k ?b; (case a => k_is); (case l => (refine' atF ?l1 ?l2; (case l1 => k_is); (case l2 => k_is))); (case k => k_is); (case b => exact bf_x_law_like)))
      (case d_law => open L2 L2.Px StX ClX in (refine' defGC_mk KX G ?a ?l ?k ?b; (case a => k_is); (case l => (refine' atC ?l1 ?l2; (case l1 => k_is); (case l2 => k_is))); (case k => k_is); (case b => exact bf_law)))
      (case cText => (refine' L2.Cls.mk ?a1 ?a2 ?a3 ?a4; (case a1 => k_is); (case a2 => k_is); (case a3 => k_is); (case a4 => k_is)))
      (case g_Text => exact qText)
      (case cPart => (refine' L2.Cls.mk ?a1 ?a2 ?a3 ?a4; (case a1 => k_is); (case a2 => k_is); (case a3 => k_is); (case a4 => k_is)))
      (case g_Part => exact qPart)
      (case cCounter => (refine' L2.Cls.mk ?a1 ?a2 ?a3 ?a4; (case a1 => k_is); (case a2 => k_is); (case a3 => k_is); (case a4 => k_is)))
      (case g_Counter => exact qCounter)
      (case cEditor => (refine' L2.Cls.mk ?a1 ?a2 ?a3 ?a4; (case a1 => k_is); (case a2 => k_is); (case a3 => k_is); (case a4 => k_is)))
      (case g_Editor => exact qEditor)
      (case cKeyReader => (refine' L2.Cls.mk ?a1 ?a2 ?a3 ?a4; (case a1 => k_is); (case a2 => k_is); (case a3 => k_is); (case a4 => k_is)))
      (case g_KeyReader => exact qKeyReader)
      (case ne_Text_Part => decide)
      (case ne_Text_Counter => decide)
      (case ne_Text_Editor => decide)
      (case ne_Text_KeyReader => decide)
      (case ne_Part_Counter => decide)
      (case ne_Part_Editor => decide)
      (case ne_Part_KeyReader => decide)
      (case ne_Counter_Editor => decide)
      (case ne_Counter_KeyReader => decide)
      (case ne_Editor_KeyReader => decide)
      (case xb_TextError => (refine' L2.Px.XBs.mk ?a1 ?a2 ?a3 ?a4; (case a1 => exact qTextError); (case a2 => k_is); (case a3 => k_is); (case a4 => k_is)))
      (case x_InvalidStep => (refine' L2.Px.XOw.mk ?a1 ?a2 ?a3 ?a4; (case a1 => exact qInvalidStep); (case a2 => (refine' L2.Px.oex_mk ?l ?r ?sa ?e ?t ?kk; (case l => k_is); (case r => rfl); (case sa => k_is); (case e => k_is); (case t => k_is); (case kk => k_is))); (case a3 => (refine' L2.Px.xf_mk ?f1 ?f2 ?f3 ?f4; (case f1 => k_is); (case f2 => k_is); (case f3 => k_is); (case f4 => k_is))); (case a4 => (refine' L2.Px.no1 ?n1; (case n1 => k_is)))))
      (case x_TooLong => (refine' L2.Px.XPl.mk ?a1 ?a2 ?a3 ?a4 ?a5; (case a1 => exact qTooLong); (case a2 => kernel_rfl); (case a3 => k_is); (case a4 => k_is); (case a5 => k_is)))
      (case x_InvalidPlace => (refine' L2.Px.XPl.mk ?a1 ?a2 ?a3 ?a4 ?a5; (case a1 => exact qInvalidPlace); (case a2 => kernel_rfl); (case a3 => k_is); (case a4 => k_is); (case a5 => k_is)))
      (case x_InvalidLetter => (refine' L2.Px.XPl.mk ?a1 ?a2 ?a3 ?a4 ?a5; (case a1 => exact qInvalidLetter); (case a2 => kernel_rfl); (case a3 => k_is); (case a4 => k_is); (case a5 => k_is)))
      (case g_ARGUMENTS => exact qARGUMENTS)
      (case kd_ARGUMENTS => (refine' L2.Px.KDt.mk ?a1 ?a2 ?a3 ?a4 ?a5; (case a1 => (refine' L2.Px.kdt_mk ?l ?e ?hn; (case l => k_is); (case e => exact ⟨⟨_, _, rfl, rfl⟩, ⟨_, _, rfl, rfl⟩, ⟨_, _, rfl, rfl⟩, trivial⟩); (case hn => first | rfl | decide))); (case a2 => exact ⟨_, by k_is⟩); (case a3 => exact ⟨_, by k_is⟩); (case a4 => exact ⟨_, by k_is⟩); (case a5 => k_is)))
      (case t_law => (refine' L2.Px.tabC_mk ?l ?v ?hd ?no; (case l => k_is); (case v => rfl); (case hd => kernel_rfl); (case no => kernel_rfl)))
      (case na_Part_start => (unfold L2.NoAttr; k_is))
      (case na_Part_length => (unfold L2.NoAttr; k_is))
      (case na_Part_is_typed => (unfold L2.NoAttr; k_is))
      (case na_Part_first => (unfold L2.NoAttr; k_is))
      (case na_Part_last => (unfold L2.NoAttr; k_is))
      (case na_Text_made => (unfold L2.NoAttr; k_is))
      (case na_Text_typed => (unfold L2.NoAttr; k_is))
      (case na_Text_parts => (unfold L2.NoAttr; k_is))
      (case na_Text_total => (unfold L2.NoAttr; k_is))
      (case na_Counter_text => (unfold L2.NoAttr; k_is))
      (case na_Counter_known => (unfold L2.NoAttr; k_is))
      (case na_Editor_present => (unfold L2.NoAttr; k_is))
      (case na_Editor_done => (unfold L2.NoAttr; k_is))
      (case na_Editor_undone => (unfold L2.NoAttr; k_is))
      (case na_Editor_is_open => (unfold L2.NoAttr; k_is))
      (case na_Editor_kept_present => (unfold L2.NoAttr; k_is))
      (case na_Editor_kept_done => (unfold L2.NoAttr; k_is))
      (case na_Editor_kept_undone => (unfold L2.NoAttr; k_is))
      (case na_KeyReader_source_text => (unfold L2.NoAttr; k_is))
      (case na_KeyReader_heads => (unfold L2.NoAttr; k_is))
      (case na_KeyReader_letters => (unfold L2.NoAttr; k_is))
      (case na_KeyReader_seen => (unfold L2.NoAttr; k_is))
      (case k_LETTERS => (refine' L2.Px.const_str KX G ?a; (case a => k_is)))
      (case k_MAX_WORD => first | exact L2.Px.loose_int XL (.head _) | exact L2.Px.loose_int XL (.tail _ (.head _)) | exact L2.Px.loose_int XL (.tail _ (.tail _ (.head _))) | exact L2.Px.loose_int XL (.tail _ (.tail _ (.tail _ (.head _)))) | (refine' L2.Px.const_int KX G ?a; (case a => k_is)))
      (case k_MAX_STEPS => first | exact L2.Px.loose_int XL (.head _) | exact L2.Px.loose_int XL (.tail _ (.head _)) | exact L2.Px.loose_int XL (.tail _ (.tail _ (.head _))) | exact L2.Px.loose_int XL (.tail _ (.tail _ (.tail _ (.head _)))) | (refine' L2.Px.const_int KX G ?a; (case a => k_is)))
      (case k_MAX_TIMES => first | exact L2.Px.loose_int XL (.head _) | exact L2.Px.loose_int XL (.tail _ (.head _)) | exact L2.Px.loose_int XL (.tail _ (.tail _ (.head _))) | exact L2.Px.loose_int XL (.tail _ (.tail _ (.tail _ (.head _)))) | (refine' L2.Px.const_int KX G ?a; (case a => k_is)))
      (case k_MAX_SIZE_texts => first | exact L2.Px.loose_int XL (.head _) | exact L2.Px.loose_int XL (.tail _ (.head _)) | exact L2.Px.loose_int XL (.tail _ (.tail _ (.head _))) | exact L2.Px.loose_int XL (.tail _ (.tail _ (.tail _ (.head _)))) | (refine' L2.Px.const_int KX G ?a; (case a => k_is)))
      (case n_isinstance => (refine' PySem.W.mg_none_of KX G ?a; (case a => k_is)))
      (case n_int => (refine' PySem.W.mg_none_of KX G ?a; (case a => k_is)))
      (case n_bool => (refine' PySem.W.mg_none_of KX G ?a; (case a => k_is)))
      (case n_str => (refine' PySem.W.mg_none_of KX G ?a; (case a => k_is)))
      (case n_len => (refine' PySem.W.mg_none_of KX G ?a; (case a => k_is)))
      (case n_all => (refine' PySem.W.mg_none_of KX G ?a; (case a => k_is)))
      (case n_tuple => (refine' PySem.W.mg_none_of KX G ?a; (case a => k_is)))
      (case n_list => (refine' PySem.W.mg_none_of KX G ?a; (case a => k_is)))
      (case n_range => (refine' PySem.W.mg_none_of KX G ?a; (case a => k_is)))
      (case n_enumerate => (refine' PySem.W.mg_none_of KX G ?a; (case a => k_is)))
      (case n_min => (refine' PySem.W.mg_none_of KX G ?a; (case a => k_is)))
      (case n_max => (refine' PySem.W.mg_none_of KX G ?a; (case a => k_is)))
      (case n_divmod => (refine' PySem.W.mg_none_of KX G ?a; (case a => k_is)))
      (case n_sum => (refine' PySem.W.mg_none_of KX G ?a; (case a => k_is)))
      (case n_zip => (refine' PySem.W.mg_none_of KX G ?a; (case a => k_is)))
      (case n_sorted => (refine' PySem.W.mg_none_of KX G ?a; (case a => k_is)))
      (case n_ValueError => (refine' PySem.W.mg_none_of KX G ?a; (case a => k_is)))
      (case n_dict => (refine' PySem.W.mg_none_of KX G ?a; (case a => k_is)))
    (case hx_law => kernel_rfl)
