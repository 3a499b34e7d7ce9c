import PyProof.Rows.All
import Wide.All
import OpenK.AllK
import Wide.FinOn
import KE.KOpsOwn
import HandS.ForMost
import HandS.More
import HandS.Star
import HandS.ClsMeth
import HandS.Property
import HandS.IsInst
import HandS.SetKeys
import HandS.Style
import KE.GoesMore
import PyProof.EnumMake
import HandS.Text
import PyProof.InstNe
import HandS.Conv
import HandS.TupAny
import HandS.Lambda
import HandS.Nested
import HandS.EndTab
import HandS.ForExc
import HandS.ExcInit
import HandS.ExcIs
import HandS.ExcField
import HandS.TryOnly
import KE.KDflt
import KE.KExcIs
import PyProof.Rows.CountFlat
import HandS.FStr
import HandS.EndOwn
import HandS.WideBits
import HandS.GenYield
import HandS.GenCall
import HandS.GenList
import HandS.DictComp
import HandS.SetFor
import HandS.Strs
import HandS.SortInts
import HandS.Defaults
import HandS.NoneIn
import PyProof.StrOps2
import KE.KDictZip
import KE.KRevSl
import PyProof.ListStr
import KE.KUnpackStar
import HandS.Finally
import HandS.TryElse
import HandS.HeadHook3
import HandS.WordsDict
import HandS.TupSets
import KE.OsSetLaws
import HandS.SetTxt0
import PyProof.Rows.SortShellAny
import HandS.ListItems
import HandS.ExcValue
import KE.KExcRaise
import HandS.SuiteRaise
import KE.LtData
import KE.OsRunLaw
import KE.HD2
import KE.KNestM
import PySem.Challenge.RW_pastekeys_k45_readers
set_option Elab.async false
set_option linter.all false
set_option maxRecDepth 100000
namespace L2.Px
open PySem PySem.W PySem.Calls PyProof.Rows HeadRun
/-- the objects and the tables that the hook looks at, off the tree -/
noncomputable def obT (as ts : List Addr) (s : SharedT) : List (Option Obj) × List (Option Obj) := (as.map (getT s), ts.map (getT s))
theorem obT_eq {K : Params → Frag} {as : List Addr} {e : ∀ P, as = (K P).map (·.1)} {ts : List Addr} (s : SharedT) : obT as ts s = (kmHook K as e ts).obs s.abs := by
  have h : ∀ l : List Addr, l.map (getT s) = l.map s.abs.heap.get? := fun l => List.map_congr_left fun a _ => getT_eq s a
  show (as.map (getT s), ts.map (getT s)) = (as.map s.abs.heap.get?, ts.map s.abs.heap.get?)
  rw [h, h]
/-- the run alone, and one look at its end: three looks are three kernel runs (one run with all looks wants over 12 GB) -/
def RunL {α : Type} (r : OpenRow) (M : Nat) (row : String) (b : Bool) (f : World → SharedT → α) (v : World → α) : Prop := ∀ (w : World) (os : OsState),
  (endF (stepQ (denQ tabQ) r.prog (w.withFollow row b)) M r.prog (w.withFollow row b) os).map (f (w.withFollow row b)) = some (v (w.withFollow row b))
def Run1 (r : OpenRow) (M : Nat) (row : String) (b : Bool) : Prop := RunL r M row b (fun w s => looksF r.prog (boot_heap w.params) s.abs) (fun _ => true)
def RunS (r : OpenRow) (q : Program) (M : Nat) (loose : List PySem.Str) (row : String) (b : Bool) : Prop := RunL r M row b (fun _ s => seenQ q loose (importedModules r.prog.main.body) (fun s => xlAt q [] s && recOk r.toRowW.records s) s.abs) (fun _ => openGood q loose)
def Run3 (r : OpenRow) (K : Params → Frag) (as ts : List Addr) (M : Nat) (row : String) (b : Bool) : Prop := RunL r M row b (fun _ s => obT as ts s) (fun w => ((K w.params).map fun p => some p.2, ts.map fun _ => some (tabObj #[])))
def RunB (r : OpenRow) (q : Program) (K : Params → Frag) (as ts : List Addr) (M : Nat) (loose : List PySem.Str) (row : String) (b : Bool) : Prop := ∀ (w : World) (os : OsState),
  (endF (stepQ (denQ tabQ) r.prog (w.withFollow row b)) M r.prog (w.withFollow row b) os).map (fun s => (looksF r.prog (boot_heap (w.withFollow row b).params) s.abs, seenQ q loose (importedModules r.prog.main.body) (fun s => xlAt q [] s && recOk r.toRowW.records s) s.abs, obT as ts s)) =
    some (true, openGood q loose, ((K (w.withFollow row b).params).map fun p => some p.2, ts.map fun _ => some (tabObj #[])))
theorem map3 {σ α β γ : Type} {o : Option σ} {f : σ → α} {g : σ → β} {h : σ → γ} {a : α} {b : β} {c : γ} (e1 : o.map f = some a) (e2 : o.map g = some b) (e3 : o.map h = some c) : o.map (fun s => (f s, g s, h s)) = some (a, b, c) := by
  cases o with
  | none => cases e1
  | some s =>
    simp only [Option.map_some, Option.some.injEq] at e1 e2 e3 ⊢
    rw [e1, e2, e3]
theorem run_map3 {r : OpenRow} {M : Nat} {row : String} {b : Bool} {α β γ : Type} {f : World → SharedT → α} {g : World → SharedT → β} {h : World → SharedT → γ} {u : World → α} {v : World → β} {t : World → γ} (h1 : RunL r M row b f u) (h2 : RunL r M row b g v) (h3 : RunL r M row b h t) : RunL r M row b (fun w s => (f w s, g w s, h w s)) (fun w => (u w, v w, t w)) :=
  fun w os => map3 (h1 w os) (h2 w os) (h3 w os)
theorem runB_of {r : OpenRow} {q : Program} {K : Params → Frag} {as ts : List Addr} {M : Nat} {loose : List PySem.Str} {row : String} {b : Bool} (h1 : Run1 r M row b) (h2 : RunS r q M loose row b) (h3 : Run3 r K as ts M row b) : RunB r q K as ts M loose row b :=
  run_map3 h1 h2 h3
theorem head_km {r : OpenRow} {q : Program} {K : Params → Frag} {as ts : List Addr} {ek : ∀ P, as = (K P).map (·.1)} {M : Nat} {loose : List PySem.Str} {d : DefRec} {kwd : List (PySem.Str × PySem.Expr)} (row : String)
    (e : opening r.prog = plainProg r.prog.main.scope.names) (f : ∀ s, fenceModules? r.prog s = some s) (run0 : RunB r q K as ts M loose row false) (run1 : RunB r q K as ts M loose row true)
    (hdef : defOf q r.name = some (d, kwd)) (hp : r.prog.theDef r.name = some (d.params, d.body, d.scope)) (hk : kwWritten? d.params.kwonlyargs d.params.kw_defaults = some kwd)
    (hwr : (!r.writes || r.records.isEmpty) = true) (k1 : r.wellSaid = true) (ok : (chainsOk q && opensWell r.prog && (frees r.toRowW && r.within.isEmpty)) = true) (hb : r.prog.bare) (hw : r.toRowW.promised)
    (call : WalkO q loose (XL q []) (kmHook K as ek ts).says r.toRowW d kwd fun f vs => PySem.call f vs) : r.Holds := by
  refine head_any (H := kmHook K as ek ts) (ob := obT as ts) (M := M) obT_eq e f (fun w os => ?_) hdef hp hk hwr k1 ok hb hw call
  have z : ∀ b, w.params.followText row = b → w.withFollow row b = w := fun b hb => by rw [← hb]; exact World.withFollow_self w row
  cases hb : w.params.followText row with
  | false =>
    have q := run0 w os
    rw [z _ hb] at q
    exact q
  | true =>
    have q := run1 w os
    rw [z _ hb] at q
    exact q
end L2.Px
namespace L2.Px
open PySem PySem.W PyProof.Rows
def topH (i : Nat) : Stmt := PySem.Challenge.pw_pastekeys_k45_readers.main.body.getD i (.Pass ⟨0, 0, 0, 0⟩)
noncomputable def qv : Program := { PySem.Challenge.pw_pastekeys_k45_readers with main := { PySem.Challenge.pw_pastekeys_k45_readers.main with body := [topH 0, topH 1, topH 2, topH 3, topH 4, topH 5, topH 6, topH 7, topH 8, topH 9, topH 10, topH 11, topH 12, topH 13, topH 14, topH 15, topH 16, topH 17, topH 18, topH 21, topH 22, topH 23, topH 24, topH 25, topH 27, topH 28, topH 29, topH 30, topH 32, topH 33, topH 34, topH 35, topH 36, topH 38, topH 40, topH 41, topH 42, topH 43, topH 44, topH 45, topH 46, topH 47, topH 48, topH 49, topH 50, topH 51, topH 52, topH 53, topH 54, topH 55, topH 56, topH 57, topH 58] } }
def p0 : Params := { strHash := fun _ => 0, shareClass := fun a => a, mergeTok := fun t => t, idOf := fun _ => 0, idOfShared := fun _ _ => 0, followText := fun _ => false, idOfImm := fun _ => 0 }
local macro_rules | `(tactic| o_head (kmHook $K:term $as:term $e:term $ts:term)) => `(tactic| assumption)
set_option maxRecDepth 100000 in
set_option maxHeartbeats 0 in
theorem hdK (h : PySem.Challenge.rw_pastekeys_k45_readers.row.Holds) : PySem.Challenge.rw_pastekeys_k45_readers.Holds := by
  w_on; o_law; k_head
set_option maxRecDepth 100000 in
set_option maxHeartbeats 0 in
theorem hd_as : ∀ P, (hdK.heap_39 p0).map (·.1) = (hdK.heap_39 P).map (·.1) := fun P => by kernel_rfl
set_option maxRecDepth 100000 in
set_option maxHeartbeats 0 in
theorem hd_a0 : Run1 PySem.Challenge.rw_pastekeys_k45_readers.row 16282 "special-get-raises" false := fun w os => by kernel_rfl
set_option maxRecDepth 100000 in
set_option maxHeartbeats 0 in
theorem hd_b0 : RunS PySem.Challenge.rw_pastekeys_k45_readers.row qv 16282 [("MAX_TIMES" : PySem.Str), ("MAX_SIZE_texts" : PySem.Str), ("Text" : PySem.Str), ("KeyReader" : PySem.Str), ("ARGUMENTS" : PySem.Str), ("Editor" : PySem.Str)] "special-get-raises" false := fun w os => by kernel_rfl
set_option maxRecDepth 100000 in
set_option maxHeartbeats 0 in
theorem hd_c0 : Run3 PySem.Challenge.rw_pastekeys_k45_readers.row hdK.heap_39 ((hdK.heap_39 p0).map (·.1)) [865] 16282 "special-get-raises" false := fun w os => by kernel_rfl
theorem hd_r0 : RunB PySem.Challenge.rw_pastekeys_k45_readers.row qv hdK.heap_39 ((hdK.heap_39 p0).map (·.1)) [865] 16282 [("MAX_TIMES" : PySem.Str), ("MAX_SIZE_texts" : PySem.Str), ("Text" : PySem.Str), ("KeyReader" : PySem.Str), ("ARGUMENTS" : PySem.Str), ("Editor" : PySem.Str)] "special-get-raises" false := runB_of hd_a0 hd_b0 hd_c0
set_option maxRecDepth 100000 in
set_option maxHeartbeats 0 in
theorem hd_a1 : Run1 PySem.Challenge.rw_pastekeys_k45_readers.row 16282 "special-get-raises" true := fun w os => by kernel_rfl
set_option maxRecDepth 100000 in
set_option maxHeartbeats 0 in
theorem hd_b1 : RunS PySem.Challenge.rw_pastekeys_k45_readers.row qv 16282 [("MAX_TIMES" : PySem.Str), ("MAX_SIZE_texts" : PySem.Str), ("Text" : PySem.Str), ("KeyReader" : PySem.Str), ("ARGUMENTS" : PySem.Str), ("Editor" : PySem.Str)] "special-get-raises" true := fun w os => by kernel_rfl
set_option maxRecDepth 100000 in
set_option maxHeartbeats 0 in
theorem hd_c1 : Run3 PySem.Challenge.rw_pastekeys_k45_readers.row hdK.heap_39 ((hdK.heap_39 p0).map (·.1)) [865] 16282 "special-get-raises" true := fun w os => by kernel_rfl
theorem hd_r1 : RunB PySem.Challenge.rw_pastekeys_k45_readers.row qv hdK.heap_39 ((hdK.heap_39 p0).map (·.1)) [865] 16282 [("MAX_TIMES" : PySem.Str), ("MAX_SIZE_texts" : PySem.Str), ("Text" : PySem.Str), ("KeyReader" : PySem.Str), ("ARGUMENTS" : PySem.Str), ("Editor" : PySem.Str)] "special-get-raises" true := runB_of hd_a1 hd_b1 hd_c1
end L2.Px
set_option Elab.async false
set_option linter.all false
set_option maxRecDepth 100000
set_option maxHeartbeats 1000000
namespace L2.Px
open PySem PySem.Spec PyProof.Rows StX
/-- the def named x keeps the promise sp -/
def GOk (P : Program) (w : World) (K : PySem.W.Frag) (mg : Str → Option Value) (base : Heap) (CX : CXT) (k : Nat) (x : Str) (sp : Sp) : Prop :=
  ∃ f, FnR P w K mg base CX k f sp ∧ mg x = some (.ref f) ∧ PySem.W.keepIn K (.ref f) = true
/-- the method m of the class at C keeps the promise sp -/
def MOk (P : Program) (w : World) (K : PySem.W.Frag) (mg : Str → Option Value) (base : Heap) (CX : CXT) (k : Nat) (C : Addr) (m : Str) (sp : Sp) : Prop :=
  ∃ f, FnR P w K mg base CX k f sp ∧ Meth K C m f
/-- a def of the top, as it stands -/
def DefG (K : PySem.W.Frag) (mg : Str → Option Value) (x : Str) (st : Stmt) (ps : List Str) : Prop :=
  ∃ f fd, Fun K x x st f fd ∧ mg x = some (.ref f) ∧ Binds K fd ps []
/-- a method of the class at C, as it stands -/
def DefM (K : PySem.W.Frag) (C : Addr) (m qual : Str) (st : Stmt) (ps : List Str) : Prop :=
  ∃ f fd, Fun K m qual st f fd ∧ Meth K C m f ∧ Binds K fd ps []
section
variable {P : Program} {w : World} {K : PySem.W.Frag} {mg : Str → Option Value} {base : Heap} {CX : CXT} {k : Nat} {f C : Addr} {fd : FuncData} {ps : List Str} {sp : Sp} {x m qual : Str} {st : Stmt}
theorem FnOk.toR (F : FnOk P w K mg base CX k f fd ps sp) (hb : Binds K fd ps []) : FnR P w K mg base CX k f sp := by
  intro A outer s H us vs Q E hr e0 r h
  have hl : (us ++ ([] : List Value)).length = ps.length := by rw [List.append_nil, ← r.length]; exact F.len _ _ _ _ h
  have kin : K.In s.heap := e0.mod.kin.keeps fun b o e => (e0.bs b o e).1
  have b1 := hb s us kin hl
  rw [List.append_nil] at b1
  exact F.run A outer s H ⟨us, []⟩ us vs Q E hr e0 b1 r h
theorem FnOk.toR1 {dvs : List V} {ds : List Value} (F : FnOk P w K mg base CX k f fd ps sp) (hb : Binds K fd ps ds) (hd : Vals dvs ds) : FnR P w K mg base CX k f (fun vs => sp (vs ++ dvs)) := by
  intro A outer s H us vs Q E hr e0 r h
  have r2 : Vals (vs ++ dvs) (us ++ ds) := r.append hd
  have hl : (us ++ ds).length = ps.length := by rw [← r2.length]; exact F.len _ _ _ _ h
  have kin : K.In s.heap := e0.mod.kin.keeps fun b o e => (e0.bs b o e).1
  exact F.run A outer s H ⟨us, []⟩ (us ++ ds) (vs ++ dvs) Q E hr e0 (hb s us kin hl) r2 h
theorem GOk.mono {j : Nat} (G : GOk P w K mg base CX j x sp) (h : j ≤ k) : GOk P w K mg base CX k x sp := let ⟨f, F, a, b⟩ := G; ⟨f, F.mono h, a, b⟩
theorem MOk.mono {j : Nat} (G : MOk P w K mg base CX j C m sp) (h : j ≤ k) : MOk P w K mg base CX k C m sp := let ⟨f, F, a⟩ := G; ⟨f, F.mono h, a⟩
/-- a def that no error leaves -/
theorem DefG.ok {N : List Str} (D : DefG K mg x st ps) (S : FnScope N ps (defScope st)) (len : ∀ vs H Q E, sp vs H Q E → vs.length = ps.length)
    (hbody : ∀ (f : Addr) (cdv : Value) (A : Around) (outer : List Env) (s : Shared) (H : Hp) (vs : List V) (Q : VK) (E : XK), Room k (A.deeper (envOfC x (defScope st) s.heap.objs.size f cdv)) → sp vs H Q E →
      ∃ t, PSs (cxOf CX0 P w K mg base N x (defScope st) f cdv A outer s H E).nox (defBody st) t ∧ t { nx := fun _ H' => Q .non H', rt := Q } (start N vs) H) : GOk P w K mg base CX0 (k + 1) x sp := by
  obtain ⟨f, fd, F, a, b⟩ := D
  exact ⟨f, FnOk.toR (F.ok S len fun cdv A outer s H vs Q E hr h => hbody f cdv A outer s H vs Q E hr h) b, a, F.kp⟩
theorem DefM.ok {N : List Str} (D : DefM K C m qual st ps) (S : FnScope N ps (defScope st)) (len : ∀ vs H Q E, sp vs H Q E → vs.length = ps.length)
    (hbody : ∀ (f : Addr) (cdv : Value) (A : Around) (outer : List Env) (s : Shared) (H : Hp) (vs : List V) (Q : VK) (E : XK), Room k (A.deeper (envOfC qual (defScope st) s.heap.objs.size f cdv)) → sp vs H Q E →
      ∃ t, PSs (cxOf CX0 P w K mg base N qual (defScope st) f cdv A outer s H E).nox (defBody st) t ∧ t { nx := fun _ H' => Q .non H', rt := Q } (start N vs) H) : MOk P w K mg base CX0 (k + 1) C m sp := by
  obtain ⟨f, fd, F, a, b⟩ := D
  exact ⟨f, FnOk.toR (F.ok S len fun cdv A outer s H vs Q E hr h => hbody f cdv A outer s H vs Q E hr h) b, a⟩
end
section
variable {X : Cx} {CX : CXT} {k : Nat} {C : Addr} {sp : Sp} {E : XK} {x m : Str} {e o : Expr} {es : List Expr} {te ta : TE} {t : TA} {p pos apos : Pos}
def tG (sp : Sp) (E : XK) (t : TA) : TE := fun σ H Q => t σ H fun vs H1 => sp vs H1 Q E
theorem pe_g (G : GOk X.prog X.w X.K X.mg X.base CX k x sp) (hr : Room k X.A) (hx : Passes CX X E) (ha : PA X (e :: es) t) (hg : Gl X x := by rfl) (hd : (x == ("__debug__" : Str)) = false := by decide)
    (he : starEach (e :: es) X.env = (false, eval e X.env) :: starEach es X.env := by rfl) (hpl : (backTo pos (starEach es X.env)).any (·.1) = false := by rfl) : PE X (.Call (.Name x p) (e :: es) [] pos) (tG sp E t) := by
  obtain ⟨f, F, hm, hk⟩ := G
  refine ⟨fun pins s σ H Q I h => ?_⟩
  refine wpAny_Call_Name_kw (ld_glob I hg hm ?_ hd)
  refine PySem.W.callWith_K (h₀ := X.base) I.ok.mod.kin hk (thn (ha.run pos pins s σ H _ I h) fun us s1 ⟨vs, H1, I1, r, q⟩ => ⟨I1.kIn, ?_⟩) he hpl
  exact wpAny_call (run_fnR F hr hx I1 r q)
/-- an instance of C that has no attribute m -/
def InsM (H : Hp) (a C : Addr) (m : Str) : Prop := ∃ dx fs, H a = some (.ins C dx fs) ∧ fs.lookup m = none
def tM (C : Addr) (m : Str) (sp : Sp) (E : XK) (ta : TE) (t : TA) : TE := fun σ H Q => ta σ H fun x H1 => ∃ a, x = .ref a ∧ InsM H1 a C m ∧ t σ H1 fun vs H2 => sp (x :: vs) H2 Q E
theorem pe_m {pl : Sem Bool} (he : PE X o ta) (c : Cls X.K C) (G : MOk X.prog X.w X.K X.mg X.base CX k C m sp) (hr : Room k X.A) (hx : Passes CX X E) (ha : PA X (e :: es) t)
    (hst : starEach (e :: es) X.env = (false, eval e X.env) :: starEach es X.env := by rfl) (hpl : (backTo pos (starEach es X.env)).any (·.1) = false := by rfl)
    (ht : eval (.Call (.Attribute o m apos) (e :: es) [] pos) X.env = (do
      let ov ← eval o X.env
      standAt apos.atName
      let (f, first) ← holding [ov] (getMethod ov m pl)
      callWith pos f first (backTo pos (starEach (e :: es) X.env)) (backToKw pos (keywordEach [] X.env))) := by rfl) :
    PE X (.Call (.Attribute o m apos) (e :: es) [] pos) (tM C m sp E ta t) := by
  obtain ⟨f, F, hm⟩ := G
  refine ⟨fun pins s σ H Q I h => ?_⟩
  refine PySem.W.methodCall_KW (pl := pl) (thn (he.run pins s σ H _ I h) fun u s1 ⟨x, H1, I1, rx, a, ex, ⟨dx, fs, ea, l⟩, q⟩ => ?_) ht
  subst ex
  obtain rfl : u = Value.ref a := rx
  refine getmeth_ok I1 ea c hm l ?_
  refine PySem.W.callWith_K (first := [.ref a]) (h₀ := X.base) I.ok.mod.kin hm.kp (thn (ha.run pos pins s1 σ H1 _ I1 q) fun us s2 ⟨vs, H2, I2, r, q2⟩ => ⟨I2.kIn, ?_⟩) hst hpl
  exact wpAny_call (run_fnR (us := .ref a :: us) (vs := .ref a :: vs) F hr hx I2 (.cons rfl r) q2)
theorem pe_m0 {pl : Sem Bool} (he : PE X o ta) (c : Cls X.K C) (G : MOk X.prog X.w X.K X.mg X.base CX k C m sp) (hr : Room k X.A) (hx : Passes CX X E)
    (ht : eval (.Call (.Attribute o m apos) [] [] pos) X.env = (do
      let ov ← eval o X.env
      standAt apos.atName
      let (f, first) ← holding [ov] (getMethod ov m pl)
      callWith pos f first (backTo pos (starEach [] X.env)) (backToKw pos (keywordEach [] X.env))) := by rfl) :
    PE X (.Call (.Attribute o m apos) [] [] pos) (tM C m sp E ta tNil) := by
  obtain ⟨f, F, hm⟩ := G
  refine ⟨fun pins s σ H Q I h => ?_⟩
  refine PySem.W.methodCall_KW (pl := pl) (thn (he.run pins s σ H _ I h) fun u s1 ⟨x, H1, I1, rx, a, ex, ⟨dx, fs, ea, l⟩, q⟩ => ?_) ht
  subst ex
  obtain rfl : u = Value.ref a := rx
  refine getmeth_ok I1 ea c hm l ?_
  exact PySem.W.callWith_K0 (first := [.ref a]) I1.kIn hm.kp (wpAny_call (run_fnR (us := [.ref a]) (vs := [.ref a]) F hr hx I1 (.cons rfl .nil) q))
/-- the class at C is made by an __init__ that keeps sp -/
def KOk (P : Program) (w : World) (K : PySem.W.Frag) (mg : Str → Option Value) (base : Heap) (CX : CXT) (k : Nat) (C : Addr) (sp : Sp) : Prop :=
  ∃ f, FnR P w K mg base CX k f sp ∧ Mk K C f
theorem pe_k (G : KOk X.prog X.w X.K X.mg X.base CX k C sp) (hr : Room (k + 1) X.A) (hm : X.mg x = some (.ref C)) (hx : Passes CX X E) (ha : PA X (e :: es) t) (hg : Gl X x := by rfl) (hdb : (x == ("__debug__" : Str)) = false := by decide)
    (he : starEach (e :: es) X.env = (false, eval e X.env) :: starEach es X.env := by rfl) (hpl : (backTo pos (starEach es X.env)).any (·.1) = false := by rfl) : PE X (.Call (.Name x p) (e :: es) [] pos) (tMakeR C sp E t) :=
  let ⟨_, F, M⟩ := G
  pe_makeR M F hr hg hm hx ha hdb he hpl
/-- C(*y), C by any name -/
def tMakeS (K : PySem.W.Frag) (C : Addr) (sp : Sp) (E : XK) (tf te : TE) : TE := fun σ H Q => tf σ H fun c H0 => c = V.ref C ∧ te σ H0 fun y H1 => ∃ a xs, y = V.ref a ∧ (SqT K H1 a xs ∨ SqL K H1 a xs) ∧
  ∀ x dx, H1 x = Option.none → H1 dx = Option.none → dx ≠ x → sp (V.ref x :: xs) (upd (upd H1 dx (.own x)) x (.ins C dx [])) (fun v H2 => v = .non ∧ Q (.ref x) H2) E
theorem pe_ks {tf : TE} {sp_ : Pos} (hf : PE X (.Name x p) tf) (G : KOk X.prog X.w X.K X.mg X.base CX k C sp) (hr : Room (k + 1) X.A) (hx : Passes CX X E) (he : PE X e te)
    (hst : starEach [.Starred e sp_] X.env = [(true, eval e X.env)] := by rfl) : PE X (.Call (.Name x p) [.Starred e sp_] [] pos) (tMakeS X.K C sp E tf te) := by
  obtain ⟨f, F, M⟩ := G
  refine ⟨fun pins s σ H Q I h => ?_⟩
  refine wpAny_Call_Name_kw (thn (hf.run pins s σ H _ I h) fun u0 s0 ⟨c, H0, I0, rc, ec, q0⟩ => ?_)
  subst ec
  obtain rfl : u0 = Value.ref C := rc
  refine PySem.W.callWith_S (h₀ := X.base) I.ok.mod.kin M.kp (thn (he.run pins s0 σ H0 _ I0 q0) fun v s1 ⟨y, H1, I1, ry, a, xs, ey, hxs, q⟩ => ?_) hst
  subst ey
  obtain rfl : v = Value.ref a := ry
  exact star_any I1 hxs fun us s2 I2 rv => ⟨I2.kIn, run_makeR M F hr hx I2 rv q⟩
end
section
variable {X : Cx} {CX : CXT} {k : Nat} {C f : Addr} {sp : Sp} {E : XK}
def InsA (H : Hp) (a C : Addr) : Prop := ∃ dx fs, H a = some (.ins C dx fs)
theorem InsA.at {pins : List (Addr × Obj)} {σ : St} {H : Hp} {s : Shared} {a : Addr} (I : Inv X pins σ H s) (h : InsA H a C) : ∃ ox od, PySem.W.InstAt s.heap a ox C od := by
  obtain ⟨dx, fs, h⟩ := h
  obtain ⟨mA, O, _⟩ := ins_get I.hok h
  obtain ⟨od, J, _⟩ := O.look
  exact ⟨_, _, J⟩
def rOwn (C : Addr) (sp : Sp) (E : XK) : R2 := fun x y H Q => ∃ a b, x = .ref a ∧ y = .ref b ∧ InsA H a C ∧ InsA H b C ∧ sp [x, y] H Q E
def rOwnI (C : Addr) (sp : Sp) (E : XK) : R2 := fun x y H Q => ∃ a i, x = .ref a ∧ y = .int i ∧ InsA H a C ∧ sp [x, y] H Q E
def tIxOwn (C : Addr) (sp : Sp) (E : XK) (ta tb : TE) : TE := fun σ H Q => ta σ H fun x H1 => tb σ H1 fun y H2 => ∃ a, x = .ref a ∧ InsA H2 a C ∧ sp [x, y] H2 Q E
end
end L2.Px
set_option Elab.async false
set_option linter.all false
set_option maxRecDepth 100000
set_option maxHeartbeats 1000000
namespace L2.Px
open PySem PySem.Spec PyProof.Rows StX
section
variable {X : Cx}
abbrev MQ := List (Str ⊕ Nat)
/-- the sub-patterns of a sequence: written texts and names -/
inductive PatEach (X : Cx) : List Pattern → MQ → Prop
  | nil : PatEach X [] []
  | val {z : Str} {k : Nat} {c pp : Pos} {ps : List Pattern} {qs : MQ} (h : PatEach X ps qs) : PatEach X (.MatchValue (.Constant (.str z) k c) pp :: ps) (.inl z :: qs)
  | cap {x : Str} {i : Nat} {pp : Pos} {ps : List Pattern} {qs : MQ} (h : X.N[i]? = some x ∧ Loc X.env.scope x ∧ (X.fn x = true ∨ X.env.scope.names.lookup x = some .local)) (h2 : PatEach X ps qs) : PatEach X (.MatchAs none (some x) pp :: ps) (.inr i :: qs)
def mBind : MQ → List V → Option (List (Nat × V))
  | .inl z :: qs, v :: vs => if v = .str z then mBind qs vs else none
  | .inr i :: qs, v :: vs => (mBind qs vs).map ((i, v) :: ·)
  | _, _ => some []
def scalOk : MQ → List V → Prop
  | .inl z :: qs, v :: vs => scal v (.str z) = true ∧ (v = .str z → scalOk qs vs)
  | .inr _ :: qs, _ :: vs => scalOk qs vs
  | _, _ => True
def setAll : St → List (Nat × V) → St
  | σ, [] => σ
  | σ, (i, v) :: bs => setAll (σ.set i (some v)) bs
/-- the names' values, as the matching hands them on -/
def BindsAre (X : Cx) : List (Nat × V) → List (Str × Value) → Prop := Paired fun p q => (X.N[p.1]? = some q.1 ∧ Loc X.env.scope q.1 ∧ (X.fn q.1 = true ∨ X.env.scope.names.lookup q.1 = some .local)) ∧ RelV p.2 q.2
theorem matchEach_run {pins : List (Addr × Obj)} {σ : St} {H : Hp} : ∀ {ps : List Pattern} {qs : MQ} {vs : List V} {us : List Value} {s : Shared}, PatEach X ps qs → Vals vs us → qs.length = vs.length → scalOk qs vs → Inv X pins σ H s →
    wpAny (model X.prog X.w) X.A (matchEach ps X.env us) (fun r s' => Inv X pins σ H s' ∧ match mBind qs vs with | none => r = none | some bs => ∃ bs', r = some bs' ∧ BindsAre X bs bs') X.xe s := by
  intro ps
  induction ps with
  | nil =>
    intro qs vs us s hp r hl hs I
    cases hp
    cases vs with
    | nil =>
      cases r
      exact wpAny_matchEach_nil ⟨I, [], rfl, .nil⟩
    | cons v vs => cases hl
  | cons p ps ih =>
    intro qs vs us s hp r hl hs I
    cases qs with
    | nil => cases hp
    | cons q qs =>
      cases vs with
      | nil => cases hl
      | cons v vs =>
        cases r with
        | cons rv rr =>
          rename_i u us
          have hl' : qs.length = vs.length := Nat.succ.inj hl
          cases q with
          | inl z' =>
            cases hp with
            | val hp2 =>
            rename_i k c pp
            obtain ⟨sc, hs2⟩ := hs
            refine wpAny_matchEach_cons (wpAny_matchPattern_Value (Calls.Constant_str ?_)) rfl
            have I1 := I.tok (s.toks + 1)
            refine thn (op_eq pins { s with toks := s.toks + 1 } σ H v (.str z') u (.str z' s.toks) (fun x H' => H' = H ∧ x = .bl (decide (v = .str z'))) I1 rv ⟨_, rfl⟩ ⟨sc, rfl, rfl⟩) fun w s2 hw => ?_
            obtain ⟨x, H', I2, rx, eH, ex⟩ := hw
            subst eH ex
            obtain rfl : w = Value.bool (decide (v = .str z')) := rx
            refine wpAny_truthy_bool ?_
            by_cases hv : v = .str z'
            · rw [if_pos (decide_eq_true hv)]
              refine thn (ih hp2 rr hl' (hs2 hv) I2) fun r' s3 ⟨I3, h3⟩ => ?_
              unfold mBind
              rw [if_pos hv]
              revert h3
              cases mBind qs vs with
              | none => intro h3; subst h3; exact ⟨I3, rfl⟩
              | some bs =>
                rintro ⟨bs', e, hb⟩
                subst e
                exact ⟨I3, bs', rfl, hb⟩
            · rw [if_neg (by simp [hv])]
              unfold mBind
              rw [if_neg hv]
              exact ⟨I2, rfl⟩
          | inr i =>
            cases hp with
            | cap hx hp2 =>
            refine wpAny_matchEach_cons (wpAny_matchPattern_Capture ?_) rfl
            refine thn (ih hp2 rr hl' hs I) fun r' s3 ⟨I3, h3⟩ => ?_
            unfold mBind
            revert h3
            cases mBind qs vs with
            | none => intro h3; subst h3; exact ⟨I3, rfl⟩
            | some bs =>
              rintro ⟨bs', e, hb⟩
              subst e
              exact ⟨I3, _, rfl, .cons ⟨hx, rv⟩ hb⟩
theorem binds_run {pins : List (Addr × Obj)} {H : Hp} (hN : X.N.Nodup) : ∀ {bs : List (Nat × V)} {bs' : List (Str × Value)} {σ : St} {s : Shared} {Q : Unit → Shared → Prop} {E : Value → Shared → Prop}, BindsAre X bs bs' → Inv X pins σ H s →
    (∀ s', Inv X pins (setAll σ bs) H s' → Q () s') → wpAny (model X.prog X.w) X.A (assignInOrder (bs'.map fun (n, _) => bindName X.env n) (bs'.map (·.2))) Q E s
  | [], _, σ, s, Q, E, .nil, I, h => assignInOrder_nil (h s I)
  | (i, v) :: bs, (x, u) :: bs', σ, s, Q, E, .cons hx hb, I, h => by
    obtain ⟨⟨h1, h2, h3⟩, rv⟩ := hx
    refine assignInOrder_cons (wpAny_bindName (store_ok I hN h1 h2 rv (fun s1 I1 => ?_) h3))
    exact binds_run hN hb I1 h
abbrev TC := V → TS
/-- the cases of a match, from one on -/
structure PCs (X : Cx) (cs : List MatchCase) (t : TC) : Prop where
  run : ∀ (first : Bool) (pins : List (Addr × Obj)) (s : Shared) (σ : St) (H : Hp) (D : Ends) (x : V) (v : Value), Inv X pins σ H s → RelV x v → t x D σ H → wpAny (model X.prog X.w) X.A (matchCases cs X.env v first) (SP X pins D) X.xe s
/-- case _: -/
theorem pcs_wild {body : List Stmt} {tb : TS} {p : Pos} (hb : PSs X body tb) : PCs X [⟨.MatchAs none none p, none, body⟩] (fun _ => tb) := by
  refine ⟨fun first pins s σ H D x v I r h => ?_⟩
  exact wpAny_matchCases_cons (wpAny_matchPattern_Capture (assignInOrder_nil (hb.run pins s σ H D I h)))
def NoSeq : V → Prop
  | .non | .bl _ | .int _ | .str _ => True
  | _ => False
def tCaseS (K : PySem.W.Frag) (qs : MQ) (g : TT) (tb : TS) (rest : TC) : TC := fun x D σ H =>
  (NoSeq x ∧ rest x D σ H) ∨ ∃ a xs, x = .ref a ∧ (SqT K H a xs ∨ SqL K H a xs) ∧ ((xs.length ≠ qs.length ∧ rest x D σ H) ∨ (xs.length = qs.length ∧ scalOk qs xs ∧
    match mBind qs xs with
    | none => rest x D σ H
    | some bs => g (setAll σ bs) H fun ok H1 => if ok = true then tb D (setAll σ bs) H1 else rest x D (setAll σ bs) H1))
theorem noseq_flag {x : V} {v : Value} (n : NoSeq x) (r : RelV x v) {Q : Bool → Shared → Prop} {M : Model} {A : Around} {E : Value → Shared → Prop} {s : Shared} (h : Q false s) : wpAny M A (collectionFlag true v) Q E s := by
  cases x with
  | non => cases r; exact wpAny_collectionFlag (T := "NoneType") rfl flag_seq_None h
  | bl _ => cases r; exact wpAny_collectionFlag (T := "bool") rfl flag_seq_bool h
  | int _ => obtain ⟨t, rfl⟩ := r; exact wpAny_collectionFlag (T := "int") rfl flag_seq_int h
  | str _ => obtain ⟨t, rfl⟩ := r; exact wpAny_collectionFlag (T := "str") rfl flag_seq_str h
  | byt _ => exact n.elim
  | flt _ => exact n.elim
  | ref _ => exact n.elim
  | ty _ => exact n.elim
/-- case [p1, p2, ..] if g: -/
theorem pcs_seq {ps : List Pattern} {qs : MQ} {g : Expr} {body : List Stmt} {rest : List MatchCase} {tg : TT} {tb : TS} {tr : TC} {p : Pos} (hc : X.calm = true) (hN : X.N.Nodup) (hp : PatEach X ps qs) (hl : ps.length = qs.length) (hg : PT X g tg) (hb : PSs X body tb) (hr : PCs X rest tr)
    (hstar : ps.findIdx? (·.isStar) = none := by rfl) (hwild : (ps.all fun p => p.isWildcard || (p.isStar && p.names.isEmpty)) = false := by rfl) : PCs X (⟨.MatchSequence ps p, some g, body⟩ :: rest) (tCaseS X.K qs tg tb tr) := by
  refine ⟨fun first pins s σ H D x v I r h => wpAny_matchCases_cons ?_⟩
  rcases h with ⟨n, h⟩ | ⟨a, xs, rfl, hq, h⟩
  · refine wpAny_matchPattern_Sequence (noseq_flag n r ?_) hstar hwild
    rw [if_neg Bool.false_ne_true]
    exact hr.run false pins s σ H D x v I r h
  · obtain rfl : v = Value.ref a := r
    have tail : ∀ {us : List Value} {s1 : Shared}, Inv X pins σ H s1 → Vals xs us → xs.length = qs.length → scalOk qs xs → (match mBind qs xs with
        | none => tr (.ref a) D σ H
        | some bs => tg (setAll σ bs) H fun ok H1 => if ok = true then tb D (setAll σ bs) H1 else tr (.ref a) D (setAll σ bs) H1) →
        wpAny (model X.prog X.w) X.A (matchEach ps X.env us) (fun r s₁ => match r with
          | none => wpAny (model X.prog X.w) X.A (matchCases rest X.env (.ref a) false) (SP X pins D) X.xe s₁
          | some bs => wpAny (model X.prog X.w) X.A (assignInOrder (bs.map fun (n, _) => bindName X.env n) (bs.map (·.2))) (fun _ s₂ =>
              wpAny (model X.prog X.w) X.A (isTrue g X.env (eval g X.env)) (fun ok s₃ => if ok then wpAny (model X.prog X.w) X.A (execs body X.env) (SP X pins D) X.xe s₃ else wpAny (model X.prog X.w) X.A (matchCases rest X.env (.ref a) false) (SP X pins D) X.xe s₃) X.xe s₂) X.xe s₁) X.xe s1 := by
      intro us s1 I1 rv hl2 hs hm
      refine thn (matchEach_run hp rv hl2.symm hs I1) fun r' s3 ⟨I3, h3⟩ => ?_
      revert h3 hm
      cases mBind qs xs with
      | none => intro hm h3; subst h3; exact hr.run false pins s3 σ H D (.ref a) _ I3 rfl hm
      | some bs =>
        rintro hm ⟨bs', e, hb'⟩
        subst e
        refine binds_run hN hb' I3 fun s4 I4 => ?_
        refine thn (hg.run pins s4 _ H _ I4 hm) fun ok s5 ⟨H5, I5, h5⟩ => ?_
        cases ok with
        | true => exact hb.run pins s5 _ H5 D I5 h5
        | false => exact hr.run false pins s5 _ H5 D (.ref a) _ I5 rfl h5
    rcases hq with hq | hq
    · obtain ⟨its, rv, ht, hz⟩ := I.tuple hq
      have hfit : (its.toArray.size : Int) < 2 ^ 63 := by
        have e := rv.length
        have z := line63
        rw [List.size_toArray]
        omega
      have I1 := I.tok (s.toks + 1 + 1)
      rcases h with ⟨hn, h⟩ | ⟨hn, hs, h⟩
      · exact matchSeq_tuple_miss ht hfit (by rw [List.size_toArray, ← rv.length, hl]; exact hn) (hr.run false pins _ σ H D (.ref a) _ I1 rfl h) hstar hwild
      · refine matchSeq_tuple_hit ht hfit (by rw [List.size_toArray, ← rv.length, hl]; exact hn) ?_ hstar hwild
        have e : ps.length = its.toArray.size := by rw [List.size_toArray, ← rv.length, hl]; exact hn.symm
        rw [e]
        refine unpackItems_tuple (I.ok.hd hc) ht fun h' hx => ?_
        exact tail (I1.kept (t' := s.toks + 1 + 1) fun b o q => hx b o (Nat.ne_of_lt (Heap.lt_size q)) q) (by simpa using rv) hn hs h
    · obtain ⟨its, rv, pl, hz⟩ := I.list hq
      have hfit : (its.toArray.size : Int) < 2 ^ 63 := by
        have e := rv.length
        have z := line63
        rw [List.size_toArray]
        omega
      have I1 := I.tok (s.toks + 1 + 1)
      rcases h with ⟨hn, h⟩ | ⟨hn, hs, h⟩
      · exact matchSeq_list_miss pl.isList hfit (by rw [List.size_toArray, ← rv.length, hl]; exact hn) (hr.run false pins _ σ H D (.ref a) _ I1 rfl h) hstar hwild
      · refine matchSeq_list_hit pl.isList hfit (by rw [List.size_toArray, ← rv.length, hl]; exact hn) ?_ hstar hwild
        have e : ps.length = its.toArray.size := by rw [List.size_toArray, ← rv.length, hl]; exact hn.symm
        rw [e]
        refine PySem.W.kun_itemsOf (I.ok.hd hc) pl.isList fun h' hx => ?_
        exact tail (I1.kept (t' := s.toks + 1 + 1) fun b o q => hx b o (Nat.ne_of_lt (Heap.lt_size q)) q) (by simpa using rv) hn hs h
def tMatch (te : TE) (tc : TC) : TS := fun D σ H => te σ H fun x H1 => tc x D σ H1
theorem ps_match {e : Expr} {cs : List MatchCase} {te : TE} {tc : TC} {pos : Pos} (he : PE X e te) (hc : PCs X cs tc) : PS X (.Match e cs pos) (tMatch te tc) := by
  refine ⟨fun pins s σ H D I h => wpAny_Match (thn (he.run pins s σ H _ I h) fun v s1 ⟨x, H1, I1, r, q⟩ => ?_)⟩
  exact hc.run true pins s1 σ H1 D x v I1 r q
end
end L2.Px
set_option Elab.async false
set_option linter.all false
set_option maxRecDepth 100000
set_option maxHeartbeats 1000000
namespace PySem
open Sem (wp)
open AutoSeq1 (wpAny_loadPart')
theorem pxMeets_enumerate_newT (l : Addr) (items : Array Value) (n : Nat) (dct : Option Addr) (sl : Array (Option Value)) :
    Meets (Builtin.«enumerate.__new__» ⟨[.type "enumerate", .ref l], []⟩) (fun _ R s => s.heap.get? l = some { cls := .type "tuple", dict := dct, data := .seq items n, slots := sl } ∧
      R (.ok (.ret (.ref (s.heap.push { cls := .type "tuple_iterator", data := .fields #[.ref l, .int 0 0] }).objs.size)))
        { s with heap := (s.heap.push { cls := .type "tuple_iterator", data := .fields #[.ref l, .int 0 0] }).push { cls := .type "enumerate", data := .fields #[.none, .bool false, .ref s.heap.objs.size, rawInt 0, .none, .none] } }) :=
  .of_wp fun prog w A R s h => by
    obtain ⟨hp, g, d, tk, os⟩ := s; obtain ⟨hl, h⟩ := h
    have hsub := sub_enumerate
    have hL : Heap.IsTuple (Shared.heap ⟨hp, g, d, tk, os⟩) l items := ⟨_, hl, rfl, n, rfl⟩
    wp_walk using wpAny_loadPart' hl
    refine wpAny_stack_any fun st => wpAny_pure ?_
    split
    · rename_i c _ _ _ _ _
      cases (c == Value.type "enumerate")
      · wp_walk using wpAny_loadPart' hl, wpAny_pyIter_tuple hL
        exact ⟨_, rfl, h⟩
      · wp_walk using wpAny_loadPart' hl, wpAny_pyIter_tuple hL
        exact ⟨_, rfl, h⟩
    · wp_walk using wpAny_loadPart' hl, wpAny_pyIter_tuple hL
      exact ⟨_, rfl, h⟩
section
variable {prog : Program} {w : World} {A : Around} {E : Value → Shared → Prop} {s : Shared}
theorem pxCall_enumerate_tuple {l : Addr} {items : Array Value} {Q : Value → Shared → Prop} (hL : s.heap.IsTuple l items)
    (h : ∀ h', IsEnum h' (s.heap.objs.size + 1) s.heap.objs.size 0 .none → h'.IsTupleIter s.heap.objs.size l 0 → h'.objs.size = s.heap.objs.size + 2 →
      (∀ b o, s.heap.get? b = some o → h'.get? b = some o) → Q (.ref (s.heap.objs.size + 1)) { s with heap := h' }) :
    wpAny (model prog w) A (call (.type "enumerate") [.ref l]) Q E s := by
  obtain ⟨⟨c, dct, dt, sl⟩, hl, hc, n, hd⟩ := hL
  replace hc : c = .type "tuple" := hc
  replace hd : dt = .seq items n := hd
  subst hc hd
  refine callType_new F.called_enumerate (by decide) (F.typeCall_enumerate_1 _) (F.newCall_enumerate_1 _) (fun obj => F.args_object_init_2 obj _) F.entry_enumerate_new
    (pxMeets_enumerate_newT l items n dct sl) ⟨hl, ?_⟩
  have hz : (s.heap.push { cls := .type "tuple_iterator", data := .fields #[.ref l, .int 0 0] }).objs.size = s.heap.objs.size + 1 := Heap.size_push ..
  show _ ∧ _
  rw [hz]
  have he : IsEnum ((s.heap.push { cls := .type "tuple_iterator", data := .fields #[.ref l, .int 0 0] }).push
      { cls := .type "enumerate", data := .fields #[.none, .bool false, .ref s.heap.objs.size, rawInt 0, .none, .none] }) (s.heap.objs.size + 1) s.heap.objs.size 0 .none := by
    have := Heap.get?_push_size (s.heap.push { cls := .type "tuple_iterator", data := .fields #[.ref l, .int 0 0] })
      (o := { cls := .type "enumerate", data := .fields #[.none, .bool false, .ref s.heap.objs.size, rawInt 0, .none, .none] }) rfl
    rw [hz] at this; exact this
  refine ⟨⟨_, he, rfl⟩, h _ he ⟨_, Heap.get?_push_of_some _ (Heap.get?_push_size _ rfl), rfl, rfl⟩ (by rw [Heap.size_push, hz]) fun b o x => Heap.get?_push_of_some _ (Heap.get?_push_of_some _ x)⟩
end
end PySem
namespace L2.Px
open PySem PySem.Spec PyProof.Rows StX
/-- the tuple at a, each item in a new pair -/
def IteT (K : PySem.W.Frag) (a : Addr) : It :=
  ⟨fun i H => ∃ (xs : List V) (x : V), SqT K H a xs ∧ xs[i]? = some x, fun i H v H' => ∃ T x, v = .ref T ∧ H T = none ∧ H' = upd H T (.tup [.int (i : Nat), x]) ∧ ∀ xs, SqT K H a xs → xs[i]? = some x, fun i H => ∃ xs : List V, SqT K H a xs ∧ xs.length ≤ i⟩
theorem turn_enumT {P : Program} {w : World} {K : PySem.W.Frag} {elts : List Expr} {kk : Nat} {tpos : Pos} (a e it : Addr) :
    Turn P w K (.Tuple elts kk tpos) (IteT K a) [e, it] e (fun i h => (∃ old, IsEnum h e it ((i : Nat) : Int) old) ∧ h.IsTupleIter it a i ∧ e ≠ it) where
  mem := by simp
  obj := fun i h st b hb => by
    obtain ⟨⟨old, he⟩, ⟨o, ho, hc, hd⟩, _⟩ := st
    have e' : b = e ∨ b = it := by simpa using hb
    rcases e' with z | z
    · rw [z]; exact ⟨_, he, fun v q => nomatch q⟩
    · rw [z]; exact ⟨o, ho, fun v q => by rw [hd] at q; cases q⟩
  keep := fun i h h' st k => let ⟨⟨old, he⟩, hi, hne⟩ := st; ⟨⟨old, k e (by simp) _ he⟩, hi.at fun o q => k it (by simp) o q, hne⟩
  item := by
    intro X hP hw hK hc i pins s σ H E I hf st hg
    subst hP hw hK
    obtain ⟨⟨old, he⟩, hit, hne⟩ := st
    obtain ⟨xs, x, hq, hx⟩ := hg
    obtain ⟨its, rv, p, hz⟩ := I.tuple hq
    obtain ⟨u, hu, ru⟩ := rv.get hx
    have hel : e < s.heap.objs.size := Heap.lt_size he
    have hil : it < s.heap.objs.size := by obtain ⟨_, q, _⟩ := hit; exact Heap.lt_size q
    have hh : X.A.handled = none := I.ok.hd hc
    have hait : a ≠ it := by
      rintro rfl
      obtain ⟨o1, q1, c1, _⟩ := p
      obtain ⟨o2, q2, c2, _⟩ := hit
      rw [q1] at q2; cases q2; rw [c1] at c2; exact absurd (Value.type.inj c2) (by decide)
    have hae : e ≠ a := by
      rintro rfl
      obtain ⟨o1, q1, c1, _⟩ := p
      have he' : s.heap.get? e = some _ := he
      rw [q1] at he'; cases he'; exact absurd (Value.type.inj c1) (by decide)
    have hi : i < its.toArray.size := by
      rw [List.size_toArray]
      exact (List.getElem?_eq_some_iff.mp hu).1
    refine wpAny_pyNext_enum_itemD (Draws.tuple (A := X.A.in1) hh it a hait its.toArray) he ⟨hit, p⟩ hi hne (by simp [hne, hae]) fun u' h' tk hu' ho hit' hT hsz hk => ?_
    have eu : u' = u := by
      have q : its[i]? = some u' := by simpa using hu'
      rw [hu] at q; exact (Option.some.inj q).symm
    subst eu
    refine ⟨_, rfl, wpAny_letOwnedTupleGo_enum (s := { s with heap := h', toks := tk + 1 }) ho fun h'' he' sb => ?_⟩
    have hT2 : h''.get? s.heap.objs.size = some { cls := .type "tuple", data := .seq #[.int i tk, u'] } := (sb.2 _ (Nat.ne_of_gt hel)).trans hT
    have new : ObjOk X.prog X.w (upd H s.heap.objs.size (.tup [.int (i : Nat), x])) h'' s.heap.objs.size (.tup [.int (i : Nat), x]) :=
      ⟨by show 2 ≤ sizeLine; decide, [.int i tk, u'], .cons ⟨_, rfl⟩ (.cons ru .nil), ⟨_, hT2, rfl, _, rfl⟩⟩
    have I1 : Inv X pins σ (upd H s.heap.objs.size (.tup [.int (i : Nat), x])) { s with heap := h'', toks := tk + 1 } :=
      I.turnedNew (ch := [e, it]) (fun b ob hb q => (sb.2 b (fun z => hb (by simp [z]))).trans (hk b ob (fun z => hb (by simp [z])) (fun z => hb (by simp [z])) q)) hf (Nat.le_refl _) new
    refine ⟨.ref s.heap.objs.size, _, I1, rfl, ⟨_, x, rfl, I.hok.fresh (Nat.le_refl _), rfl, fun ys hy => by rw [I.tuple_inj hy hq]; exact hx⟩, ⟨⟨u', ?_⟩, hit'.1.at fun o q => (sb.2 it (Ne.symm hne)).trans q, hne⟩, fun b hb => ?_⟩
    · have e1 : ((i + 1 : Nat) : Int) = (i : Int) + 1 := by omega
      rw [e1]; exact he'
    · have hb' : b < s.heap.objs.size := by
        have e' : b = e ∨ b = it := by simpa using hb
        rcases e' with z | z
        · rw [z]; exact hel
        · rw [z]; exact hil
      rw [upd_ne (Nat.ne_of_lt hb')]
      exact (hf b hb).1
  done := by
    intro X hP hw hK hc i pins s σ H E I hf st hg
    subst hP hw hK
    obtain ⟨⟨old, he⟩, hit, hne⟩ := st
    obtain ⟨xs, hq, hx⟩ := hg
    obtain ⟨its, rv, p, hz⟩ := I.tuple hq
    obtain ⟨f0, f1, f2, f3, f4, f5⟩ := hf it (by simp)
    have hh : X.A.handled = none := I.ok.hd hc
    have hn : its.toArray[i]? = none := by
      have hl := rv.length
      simp; omega
    have hT : s.TypeIs (.ref e) "enumerate" := ⟨_, he, rfl⟩
    unfold pyNext
    refine wpAny_bind (wpAny_attempt (wpAny_callSpecial?_slot (name := Str.ofString "__next__") hT F.slot_enumerate_next
      (wpAny_call_entry F.slot_enumerate_next hT F.entry_enumerate_next ?_ (F.args_enumerate_next_1 _))))
    show wpAny _ _ (field (.ref e) 2 >>= _) _ _ _
    refine wpAny_bind (wpAny_field he rfl (x := .ref it) rfl ?_)
    refine wpAny_bind (wpAny_nextOf_tuple_end hh hit p hn fun h' x he' hx' => ?_)
    obtain ⟨o, ho, hc'⟩ := hx'
    refine wpAny_bind (wpAny_isInstance (T := "StopIteration") (b := true) ⟨o, ho, hc'⟩ isSubtype_stop ?_)
    exact wpAny_pure ⟨rfl, I.turned (t' := s.toks) (fun b o hb q => he' b o hb q) f0 f1 f3 f4 f5⟩
  self := fun A i s Q E st h => let ⟨⟨_, he⟩, _⟩ := st; wpAny_pyIter_enum he h
def iEnumT (K : PySem.W.Frag) (ta : TA) : TI := fun σ H R => ta σ H fun vs H1 => ∃ a xs, vs = [.ref a] ∧ SqT K H1 a xs ∧ R (IteT K a) H1
theorem pi_enumT {X : Cx} {e : Expr} {ta : TA} {p pos tpos : Pos} {elts : List Expr} {kk : Nat} (hm : X.mg "enumerate" = none) (ha : PA X [e] ta) (hg : Gl X "enumerate" := by rfl) (hs : starEach [e] X.env = [(false, eval e X.env)] := by rfl) :
    PI X (.Tuple elts kk tpos) (.Call (.Name "enumerate" p) [e] [] pos) (iEnumT X.K ta) := by
  refine ⟨fun pins s σ H R I h => ?_⟩
  refine Call_ (ld_blt I hg hm boot_enumerate (PyProof.Rows.callWith_type1 (thn (ha.run pos pins s σ H _ I h) fun us s1 ⟨vs, H1, I1, r1, q1⟩ => ?_) hs rfl))
  obtain ⟨a, xs, ex, hq, q⟩ := q1
  subst ex
  cases r1 with
  | cons r rr =>
    cases rr
    cases r
    obtain ⟨its, rv, p', hz⟩ := I1.tuple hq
    refine pxCall_enumerate_tuple (show s1.heap.IsTuple a its.toArray from p') fun h' he hit hsz hk => wpAny_pyIter_enum he ?_
    have I2 : Inv X pins σ H1 { s1 with heap := h' } := I1.kept (t' := s1.toks) hk
    refine ⟨s1.heap.objs.size + 1, [s1.heap.objs.size + 1, s1.heap.objs.size], _, _, H1, rfl, I2, turn_enumT a (s1.heap.objs.size + 1) s1.heap.objs.size, ⟨⟨.none, he⟩, hit, Nat.succ_ne_self _⟩, fun b hb => ?_, q⟩
    have e' : b = s1.heap.objs.size + 1 ∨ b = s1.heap.objs.size := by simpa using hb
    have hle : s1.heap.objs.size ≤ b := by
      rcases e' with z | z
      · rw [z]; exact Nat.le_add_right _ _
      · rw [z]; exact Nat.le_refl _
    exact I1.fpOk hle (I1.hok.fresh hle)
/-- the loop over such a walk: the pair is new at T -/
theorem for_enumT {K : PySem.W.Frag} {a : Addr} {xs : List V} {g : TG} {tb : TS} {D : Ends} {σ : St} {H : Hp} (Pv : Nat → St → Hp → Prop) (h0 : Pv 0 σ H) (hl : ∀ i σ H, i ≤ xs.length → Pv i σ H → SqT K H a xs)
    (hs : ∀ i x T σ H, xs[i]? = some x → Pv i σ H → H T = none → g (.ref T) σ (upd H T (.tup [.int (i : Nat), x])) fun σ2 H2 => tb { D with nx := Pv (i + 1), ct := Pv (i + 1), bk := D.nx } σ2 H2) (hd : ∀ σ H, Pv xs.length σ H → D.nx σ H) :
    ∃ W : Nat → Nat → St → Hp → Prop, (∃ m, W 0 m σ H) ∧ ∀ i m σ H, W i m σ H →
      ((IteT K a).stop i H ∧ D.nx σ H) ∨ ((IteT K a).go i H ∧ ∃ N : St → Hp → Prop, (∀ σ' H', N σ' H' → ∃ m', m' < m ∧ W (i + 1) m' σ' H') ∧ ∀ x H', (IteT K a).yld i H x H' → g x σ H' fun σ2 H2 => tb { D with nx := N, ct := N, bk := D.nx } σ2 H2) := by
  refine ⟨fun i m σ H => m = xs.length - i ∧ i ≤ xs.length ∧ Pv i σ H, ⟨xs.length, by simp, Nat.zero_le _, h0⟩, ?_⟩
  rintro i m σ H ⟨rfl, hi, p⟩
  have q := hl i σ H hi p
  by_cases hlt : i < xs.length
  · refine .inr ⟨⟨xs, xs[i], q, by simp [hlt]⟩, Pv (i + 1), fun σ' H' p' => ⟨xs.length - (i + 1), by omega, rfl, hlt, p'⟩, fun x H' y => ?_⟩
    obtain ⟨T, z, rfl, hT, rfl, y⟩ := y
    exact hs i z T σ H (y xs q) p hT
  · have e : i = xs.length := by omega
    subst e
    exact .inl ⟨⟨xs, q, Nat.le_refl _⟩, hd σ H p⟩
end L2.Px
set_option Elab.async false
set_option linter.all false
set_option maxRecDepth 100000
set_option maxHeartbeats 1000000
namespace L2.Px
open PySem PySem.Spec PyProof.Rows StX
section
variable {X : Cx}
def rAddS : R2 := fun x y H Q => ∃ i j, x = .str i ∧ y = .str j ∧ i.length + j.length ≤ sizeLine ∧ Q (.str (i ++ j)) H
def rAddA (K : PySem.W.Frag) : R2 := fun x y H Q => rI0 (fun i j => .int (i + j)) x y H Q ∨ rAddS x y H Q ∨ rCat x y H Q
theorem oAdd : OpR X (binaryOp .Add) (rAddA X.K) := op_add.or (op_add_str.or op_cat)
def rMulA : R2 := fun x y H Q => rI CMul (fun i j => .int (i * j)) x y H Q ∨ rRep x y H Q
theorem oMul : OpR X (binaryOp .Mult) rMulA := op_mul.or op_rep
def rEqA (K : PySem.W.Frag) : R2 := fun x y H Q => rEq x y H Q ∨ rEqD K x y H Q
def rNeA (K : PySem.W.Frag) : R2 := fun x y H Q => rNe x y H Q ∨ rNeD K x y H Q
theorem oEq (hu : X.A.units + 64 < cLine) : OpR X (compareOp .Eq) (rEqA X.K) := op_eq.or (op_eqD hu)
theorem oNe (hu : X.A.units + 64 < cLine) : OpR X (compareOp .NotEq) (rNeA X.K) := op_ne.or (op_neD hu)
end
section
variable {K : PySem.W.Frag} {σ : St} {H : Hp} {Q : VK} {i j : Int} {x y : Str} {a b : Addr} {xs ys : List V} {p q : Prop} {A B : Prop} {c : Bool} {v : V}
theorem rd_add_int (h : Q (.int (i + j)) H) : rAddA K (.int i) (.int j) H Q := .inl ⟨i, j, rfl, rfl, h⟩
theorem rd_add_str (hz : x.length + y.length ≤ sizeLine) (h : Q (.str (x ++ y)) H) : rAddA K (.str x) (.str y) H Q := .inr (.inl ⟨x, y, rfl, rfl, hz, h⟩)
theorem rd_add_lst (ha : H a = some (.lst xs)) (hb : H b = some (.lst ys)) (hz : xs.length + ys.length ≤ sizeLine) (h : ∀ p, H p = none → Q (.ref p) (upd H p (.lst (xs ++ ys)))) : rAddA K (.ref a) (.ref b) H Q := .inr (.inr ⟨a, b, xs, ys, rfl, rfl, ha, hb, hz, h⟩)
theorem rd_mul_int (hc : CMul i j) (h : Q (.int (i * j)) H) : rMulA (.int i) (.int j) H Q := .inl ⟨i, j, rfl, rfl, hc, h⟩
theorem rd_eq_scal {v w : V} (hs : scal v w = true) (h : Q (.bl (decide (v = w))) H) : rEqA K v w H Q := .inl ⟨hs, h⟩
theorem rd_ne_scal {v w : V} (hs : scal v w = true) (h : Q (.bl (!decide (v = w))) H) : rNeA K v w H Q := .inl ⟨hs, h⟩
theorem dec_int (i j : Int) : decide (V.int i = V.int j) = decide (i = j) := by rw [L2.dec_int, Bool.beq_eq_decide_eq]
theorem dec_str (x y : Str) : decide (V.str x = V.str y) = decide (x = y) := by rw [L2.dec_str, Bool.beq_eq_decide_eq]
theorem dec_bl (x y : Bool) : decide (V.bl x = V.bl y) = decide (x = y) := by rw [L2.dec_bl, Bool.beq_eq_decide_eq]
theorem rd_eq_int (h : Q (.bl (decide (i = j))) H) : rEqA K (.int i) (.int j) H Q := rd_eq_scal rfl (by rw [dec_int]; exact h)
theorem rd_eq_str (h : Q (.bl (decide (x = y))) H) : rEqA K (.str x) (.str y) H Q := rd_eq_scal rfl (by rw [dec_str]; exact h)
theorem rd_eq_bl {c d : Bool} (h : Q (.bl (decide (c = d))) H) : rEqA K (.bl c) (.bl d) H Q := rd_eq_scal rfl (by rw [dec_bl]; exact h)
theorem rd_ne_int (h : Q (.bl (!decide (i = j))) H) : rNeA K (.int i) (.int j) H Q := rd_ne_scal rfl (by rw [dec_int]; exact h)
theorem rd_ne_str (h : Q (.bl (!decide (x = y))) H) : rNeA K (.str x) (.str y) H Q := rd_ne_scal rfl (by rw [dec_str]; exact h)
theorem rd_ne_bl {c d : Bool} (h : Q (.bl (!decide (c = d))) H) : rNeA K (.bl c) (.bl d) H Q := rd_ne_scal rfl (by rw [dec_bl]; exact h)
theorem rd_eq_dat {d e : PyData} {v w : V} (hd : Dp K H v d) (he : Dp K H w e) (sd : SeqAt.shaped d = true) (se : SeqAt.shaped e = true) (h : Q (.bl (PyData.eqv d e)) H) : rEqA K v w H Q := .inr ⟨d, e, hd, he, sd, se, h⟩
theorem rd_ne_dat {d e : PyData} {v w : V} (hd : Dp K H v d) (he : Dp K H w e) (sd : SeqAt.shaped d = true) (se : SeqAt.shaped e = true) (h : Q (.bl (!PyData.eqv d e)) H) : rNeA K v w H Q := .inr ⟨d, e, hd, he, sd, se, h⟩
theorem rd_sub (h : Q (.int (i - j)) H) : rI0 (fun i j => .int (i - j)) (.int i) (.int j) H Q := ⟨i, j, rfl, rfl, h⟩
theorem rd_I0 {g : Int → Int → V} (h : Q (g i j) H) : rI0 g (.int i) (.int j) H Q := ⟨i, j, rfl, rfl, h⟩
theorem rd_I {C : Int → Int → Prop} {g : Int → Int → V} (hc : C i j) (h : Q (g i j) H) : rI C g (.int i) (.int j) H Q := ⟨i, j, rfl, rfl, hc, h⟩
theorem rd_bl {R : Bool → Prop} (h : R c) : ∃ k, V.bl c = .bl k ∧ R k := ⟨c, rfl, h⟩
theorem rd_dT [Decidable p] (h : p) (a : A) : if decide p = true then A else B := by rw [if_pos (decide_eq_true h)]; exact a
theorem rd_dF [Decidable p] (h : ¬ p) (b : B) : if decide p = true then A else B := by rw [if_neg (by simp [h])]; exact b
theorem rd_nT [Decidable p] (h : ¬ p) (a : A) : if (!decide p) = true then A else B := by rw [if_pos (by simp [h])]; exact a
theorem rd_nF [Decidable p] (h : p) (b : B) : if (!decide p) = true then A else B := by rw [if_neg (by simp [h])]; exact b
theorem rd_cT (h : c = true) (a : A) : if c = true then A else B := by rw [if_pos h]; exact a
theorem rd_cF (h : c = false) (b : B) : if c = true then A else B := by rw [h, if_neg Bool.false_ne_true]; exact b
theorem rd_ite [Decidable p] (a : p → A) (b : ¬ p → B) : if decide p = true then A else B := by
  by_cases h : p
  · exact rd_dT h (a h)
  · exact rd_dF h (b h)
theorem rd_iteN [Decidable p] (a : ¬ p → A) (b : p → B) : if (!decide p) = true then A else B := by
  by_cases h : p
  · exact rd_nF h (b h)
  · exact rd_nT h (a h)
theorem rd_iteC (a : c = true → A) (b : c = false → B) : if c = true then A else B := by
  cases c with
  | true => exact rd_cT rfl (a rfl)
  | false => exact rd_cF rfl (b rfl)
variable {te ta tb tc' : TE} {t : TA} {tt uu : TT} {sp : Sp} {E : XK} {r r' : R2} {n : Nat} {f m : Str} {C dx : Addr} {fs : List (Str × V)}
theorem rd_var (h : σ[n]? = some (some v)) (q : Q v H) : tVar n σ H Q := ⟨v, h, q⟩
theorem rd_C (q : Q v H) : tC v σ H Q := q
theorem rd_op (h : ta σ H fun x H1 => tb σ H1 fun y H2 => r x y H2 Q) : tOp r ta tb σ H Q := h
theorem rd_test {R : Bool → Hp → Prop} (h : te σ H fun x H' => ∃ k, x = .bl k ∧ R k H') : tTest te σ H R := h
theorem rd_tB {R : Bool → Hp → Prop} (h : te σ H fun x H' => ∃ k, x = .bl k ∧ R k H') : tB te σ H R := h
theorem rd_chain (h : ta σ H fun x H1 => tb σ H1 fun y H2 => r x y H2 fun z H3 => ∃ k, z = .bl k ∧ (if k = true then tc' σ H3 fun w' H4 => r' y w' H4 Q else Q (.bl false) H3)) : tChain r r' ta tb tc' σ H Q := h
theorem rd_and {R : Bool → Hp → Prop} (h : tt σ H fun c H1 => if c = true then uu σ H1 R else R false H1) : tAnd tt uu σ H R := h
theorem rd_or {R : Bool → Hp → Prop} (h : tt σ H fun c H1 => if c = true then R true H1 else uu σ H1 R) : tOr tt uu σ H R := h
theorem rd_not {R : Bool → Hp → Prop} (h : tt σ H fun c H1 => R (!c) H1) : tNot tt σ H R := h
theorem rd_andV (h : ta σ H fun x H1 => ∃ k, x = .bl k ∧ (if k = true then tb σ H1 Q else Q (.bl false) H1)) : tAndV ta tb σ H Q := h
theorem rd_orV (h : ta σ H fun x H1 => ∃ k, x = .bl k ∧ (if k = true then Q (.bl true) H1 else tb σ H1 Q)) : tOrV ta tb σ H Q := h
theorem rd_notV (h : ta σ H fun x H1 => ∃ k, x = .bl k ∧ Q (.bl (!k)) H1) : tNotV ta σ H Q := h
theorem rd_if (h : tt σ H fun c H1 => if c = true then ta σ H1 Q else tb σ H1 Q) : tIf tt ta tb σ H Q := h
theorem rd_g (h : t σ H fun vs H1 => sp vs H1 Q E) : tG sp E t σ H Q := h
theorem rd_m (h : ta σ H fun x H1 => ∃ a, x = .ref a ∧ InsM H1 a C m ∧ t σ H1 fun vs H2 => sp (x :: vs) H2 Q E) : tM C m sp E ta t σ H Q := h
theorem rd_m_at (i : InsM H a C m) (h : t σ H fun vs H2 => sp (.ref a :: vs) H2 Q E) : ∃ a', V.ref a = .ref a' ∧ InsM H a' C m ∧ t σ H fun vs H2 => sp (V.ref a :: vs) H2 Q E := ⟨a, rfl, i, h⟩
theorem rd_nil {R : List V → Hp → Prop} (h : R [] H) : tNil σ H R := h
theorem rd_cons {R : List V → Hp → Prop} (h : te σ H fun x H1 => t σ H1 fun xs H2 => R (x :: xs) H2) : tCons te t σ H R := h
theorem rd_star {R : List V → Hp → Prop} (h : te σ H fun x H1 => ∃ p xs, x = V.ref p ∧ (SqT K H1 p xs ∨ SqL K H1 p xs) ∧ t σ H1 fun ys H2 => R (xs ++ ys) H2) : tStar K te t σ H R := h
theorem rd_tup (h : t σ H fun xs H1 => xs.length ≤ sizeLine ∧ ∀ p, H1 p = none → Q (.ref p) (upd H1 p (.tup xs))) : tTup t σ H Q := h
theorem rd_lst (h : t σ H fun xs H1 => xs.length ≤ sizeLine ∧ ∀ p, H1 p = none → Q (.ref p) (upd H1 p (.lst xs))) : tLst t σ H Q := h
def rFld (K : PySem.W.Frag) (f : Str) (x : V) (H1 : Hp) (Q : VK) : Prop := ∃ a C dx fs v, x = .ref a ∧ H1 a = some (.ins C dx fs) ∧ Cls K C ∧ NoAttr K C f ∧ fs.lookup f = some v ∧ Q v H1
theorem rd_fld (h : te σ H fun x H1 => rFld K f x H1 Q) : tFld K te f σ H Q := h
theorem rd_fld_at (e : H a = some (.ins C dx fs)) (c : Cls K C) (nn : NoAttr K C f) (l : fs.lookup f = some v) (q : Q v H) : rFld K f (.ref a) H Q := ⟨a, C, dx, fs, v, rfl, e, c, nn, l, q⟩
theorem rd_cb {rr : List V → Hp → VK → Prop} (h : t σ H fun vs H1 => rr vs H1 Q) : tCB rr t σ H Q := h
theorem rd_un {ru : V → Hp → VK → Prop} (h : ta σ H fun x H1 => ru x H1 Q) : tUn ru ta σ H Q := h
def rMk (C : Addr) (sp : Sp) (E : XK) (vs : List V) (H1 : Hp) (Q : VK) : Prop := ∀ x dx, H1 x = Option.none → H1 dx = Option.none → dx ≠ x → sp (V.ref x :: vs) (upd (upd H1 dx (.own x)) x (.ins C dx [])) (fun v H2 => v = .non ∧ Q (.ref x) H2) E
theorem rd_makeR (h : t σ H fun vs H1 => rMk C sp E vs H1 Q) : tMakeR C sp E t σ H Q := h
def rMkS (K : PySem.W.Frag) (C : Addr) (sp : Sp) (E : XK) (y : V) (H1 : Hp) (Q : VK) : Prop := ∃ a xs, y = V.ref a ∧ (SqT K H1 a xs ∨ SqL K H1 a xs) ∧ rMk C sp E xs H1 Q
theorem rd_makeS (h : ta σ H fun c H0 => c = V.ref C ∧ te σ H0 fun y H1 => rMkS K C sp E y H1 Q) : tMakeS K C sp E ta te σ H Q := h
theorem rd_mkS (hq : SqT K H a xs ∨ SqL K H a xs) (h : rMk C sp E xs H Q) : rMkS K C sp E (.ref a) H Q := ⟨a, xs, rfl, hq, h⟩
theorem rd_bm {T : String} {rm : V → List V → Hp → VK → Prop} (h : te σ H fun x H1 => tyV K T x H1 ∧ t σ H1 fun xs H2 => rm x xs H2 Q) : tBM K T rm te t σ H Q := h
theorem rd_bm0 {T : String} {rm : V → List V → Hp → VK → Prop} (h : te σ H fun x H1 => tyV K T x H1 ∧ rm x [] H1 Q) : tBM0 K T rm te σ H Q := h
theorem rd_ixI (h : Q v H) (hx : SqL K H a xs) (e : atI xs i = some v) : rIx K (.ref a) (.int i) H Q := .inl ⟨a, xs, i, v, rfl, rfl, hx, e, h⟩
theorem rd_ixT (h : Q v H) (hx : SqT K H a xs) (e : atI xs i = some v) : rIx K (.ref a) (.int i) H Q := .inr (.inl ⟨a, xs, i, v, rfl, rfl, hx, e, h⟩)
variable {nx ct bk : St → Hp → Prop} {rt : VK} {st su : TS} {D : Ends} {vs : List V} {g : TG} {gs : TGs} {R : St → Hp → Prop}
theorem rd_seq (h : st ⟨su ⟨nx, rt, bk, ct⟩, rt, bk, ct⟩ σ H) : tSeq st su ⟨nx, rt, bk, ct⟩ σ H := h
theorem rd_next (h : nx σ H) : tNext ⟨nx, rt, bk, ct⟩ σ H := h
theorem rd_break (h : bk σ H) : tBreak ⟨nx, rt, bk, ct⟩ σ H := h
theorem rd_cont (h : ct σ H) : tCont ⟨nx, rt, bk, ct⟩ σ H := h
theorem rd_ret (h : te σ H rt) : tRet te ⟨nx, rt, bk, ct⟩ σ H := h
theorem rd_retN (h : rt .non H) : tRetN ⟨nx, rt, bk, ct⟩ σ H := h
theorem rd_drop (h : te σ H fun _ H1 => nx σ H1) : tDrop te ⟨nx, rt, bk, ct⟩ σ H := h
theorem rd_ifS (h : tt σ H fun b H1 => if b = true then st D σ H1 else su D σ H1) : tIfS tt st su D σ H := h
theorem rd_asg (h : te σ H fun x H1 => g x σ H1 nx) : tAsg te g ⟨nx, rt, bk, ct⟩ σ H := h
theorem rd_name (h : R (σ.set n (some v)) H) : gName n v σ H R := h
theorem rd_gtup (hq : SqT K H a xs) (hl : xs.length = n) (h : gs xs σ H R) : gTup K n gs (.ref a) σ H R := ⟨a, xs, rfl, hq, hl, h⟩
theorem rd_gnil (h : R σ H) : gNil [] σ H R := ⟨rfl, h⟩
theorem rd_gcons (h : g v σ H fun σ' H' => gs vs σ' H' R) : gCons g gs (v :: vs) σ H R := ⟨v, vs, rfl, h⟩
theorem rd_gsub {s : TSet} (h : ta σ H fun o H1 => tb σ H1 fun i H2 => s o i v H2 fun H3 => R σ H3) : gSub ta tb s v σ H R := h
theorem rd_setL {P : Hp → Prop} {j : Nat} (ha : H a = some (.lst xs)) (hj : ixN xs.length i = some j) (h : P (upd H a (.lst (xs.set j v)))) : rSetL (.ref a) (.int i) v H P := ⟨a, xs, i, j, rfl, rfl, ha, hj, h⟩
theorem rd_aug {ti : TIp} (h : σ[n]? = some (some v)) (q : te σ H fun y H1 => ti v y H1 fun z H2 => nx (σ.set n (some z)) H2) : tAug n te ti ⟨nx, rt, bk, ct⟩ σ H := ⟨v, h, q⟩
theorem rd_ipI {fn : Int → Int → Int} (h : Q (.int (fn i j)) H) : ipI fn (.int i) (.int j) H Q := ⟨i, j, rfl, rfl, h⟩
def rSFld (K : PySem.W.Frag) (f : Str) (y x : V) (H2 : Hp) (k : Hp → Prop) : Prop := ∃ a C dx fs, x = .ref a ∧ H2 a = some (.ins C dx fs) ∧ Cls K C ∧ NoAttr K C f ∧ fs.length < 1000 ∧ k (upd H2 a (.ins C dx (putF f y fs)))
theorem rd_sfld (h : tb σ H fun y H1 => ta σ H1 fun x H2 => rSFld K f y x H2 (nx σ)) : sFld K ta tb f ⟨nx, rt, bk, ct⟩ σ H := h
theorem rd_sfld_at {y : V} {k : Hp → Prop} (e : H a = some (.ins C dx fs)) (c : Cls K C) (nn : NoAttr K C f) (l : fs.length < 1000) (h : k (upd H a (.ins C dx (putF f y fs)))) : rSFld K f y (.ref a) H k := ⟨a, C, dx, fs, rfl, e, c, nn, l, h⟩
theorem rd_for {wi : TI} (h : wi σ H fun J H1 => ∃ W : Nat → Nat → St → Hp → Prop, (∃ m, W 0 m σ H1) ∧ ∀ i m σ H, W i m σ H →
  (J.stop i H ∧ D.nx σ H) ∨ (J.go i H ∧ ∃ N : St → Hp → Prop, (∀ σ' H', N σ' H' → ∃ m', m' < m ∧ W (i + 1) m' σ' H') ∧ ∀ x H', J.yld i H x H' → g x σ H' fun σ2 H2 => st { D with nx := N, ct := N, bk := D.nx } σ2 H2)) : tFor wi g st D σ H := h
theorem rd_iList {Rr : It → Hp → Prop} (h : te σ H fun x H1 => ∃ a, x = .ref a ∧ (∃ xs, SqL K H1 a xs) ∧ Rr (Itl K a) H1) : iList K te σ H Rr := h
theorem rd_iTup {Rr : It → Hp → Prop} (h : te σ H fun x H1 => ∃ a, x = .ref a ∧ (∃ xs, SqT K H1 a xs) ∧ Rr (Itt K a) H1) : iTup K te σ H Rr := h
theorem rd_iRng1 {Rr : It → Hp → Prop} (h : t σ H fun vs H1 => ∃ j : Int, vs = [.int j] ∧ -(2 ^ 62) ≤ j ∧ j < 2 ^ 62 ∧ Rr (Itr 0 j.toNat) H1) : iRng1 t σ H Rr := h
theorem rd_iRng2 {Rr : It → Hp → Prop} (h : t σ H fun vs H1 => ∃ i j : Int, vs = [.int i, .int j] ∧ (-(2 ^ 62) ≤ i ∧ i < 2 ^ 62 ∧ -(2 ^ 62) ≤ j ∧ j < 2 ^ 62) ∧ Rr (Itr i (j - i).toNat) H1) : iRng2 t σ H Rr := h
theorem rd_iEnumT {Rr : It → Hp → Prop} (h : t σ H fun vs H1 => ∃ a xs, vs = [.ref a] ∧ SqT K H1 a xs ∧ Rr (IteT K a) H1) : iEnumT K t σ H Rr := h
theorem rd_match {tc : TC} (h : te σ H fun x H1 => tc x D σ H1) : tMatch te tc D σ H := h
theorem rd_par {l k : Nat} (h : t σ H fun vs H1 => ∃ v w, vs = [v, w] ∧ nx ((σ.set l (some v)).set k (some w)) H1) : tPar l k t ⟨nx, rt, bk, ct⟩ σ H := h
theorem rd_two {v w : V} {RR : V → V → Prop} (h : RR v w) : ∃ v' w', [v, w] = [v', w'] ∧ RR v' w' := ⟨v, w, rfl, h⟩
theorem rd_lc {wi : TI} {ws : List Nat} (h : wi σ H fun J H1 => ∀ D, H1 D = none → ∃ W : Nat → Nat → Hp → Prop, (∃ m, W 0 m (upd H1 D (.lst []))) ∧ ∀ i m H, W i m H →
  (J.stop i H ∧ Q (.ref D) H) ∨ (J.go i H ∧ ∃ Nx : Hp → Prop, (∀ H', Nx H' → ∃ m', m' < m ∧ W (i + 1) m' H') ∧ ∀ x H', J.yld i H x H' → g x (wipe σ ws) H' fun σ2 H2 => wipe σ2 ws = wipe σ ws ∧ tt σ2 H2 fun b H3 =>
    if b = true then te σ2 H3 fun y H4 => ∃ acc, H4 D = some (.lst acc) ∧ acc.length < sizeLine ∧ Nx (upd H4 D (.lst (acc ++ [y]))) else Nx H3)) : tLc wi g tt te ws σ H Q := h
theorem rd_yes {Rb : Bool → Hp → Prop} (h : Rb true H) : tYes σ H Rb := h
theorem Same.new {H H' : Hp} {p : Addr} {o : HO} (s : Same H H') (h : H' p = none) : Same H (upd H' p o) := fun b u e => by rw [upd_ne (ne_of_none (s b u e) h)]; exact s b u e
theorem Same.mut {H H' : Hp} {p : Addr} {o : HO} (s : Same H H') (h : H p = none) : Same H (upd H' p o) := fun b u e => by rw [upd_ne (ne_of_none e h)]; exact s b u e
theorem lk_new {o u : HO} {p : Addr} (h : H p = none) (e : H a = some u) : upd H p o a = some u := by rw [upd_ne (ne_of_none e h)]; exact e
theorem lk_ne {o u : HO} {p : Addr} (h : a ≠ p) (e : H a = some u) : upd H p o a = some u := by rw [upd_ne h]; exact e
theorem Same.tup {H H' : Hp} {K : PySem.W.Frag} {a : Addr} {xs : List V} (e : Same H H') (h : SqT K H a xs) : SqT K H' a xs := by
  rcases h with (h | ⟨o, h⟩) | h
  · exact .inl (.inl (e _ _ h))
  · exact .inl (.inr ⟨o, e _ _ h⟩)
  · exact .inr h
end
end L2.Px
set_option Elab.async false
set_option linter.all false
set_option maxRecDepth 100000
set_option maxHeartbeats 1000000
namespace L2.Px
open PySem PySem.Spec PyProof.Rows StX ClX
/-- the property f of the class at C -/
def DefP (K : PySem.W.Frag) (C : Addr) (f qual : Str) (st : Stmt) : Prop := ∃ p g fd, Fun K f qual st g fd ∧ PropOf K C f p g ∧ Binds K fd ["self"] []
def POk (P : Program) (w : World) (K : PySem.W.Frag) (mg : Str → Option Value) (base : Heap) (CX : CXT) (k : Nat) (C : Addr) (f : Str) (sp : Sp) : Prop :=
  ∃ p g fd, FnOk P w K mg base CX k g fd ["self"] sp ∧ PropOf K C f p g ∧ Binds K fd ["self"] []
/-- the classmethod m of the class at C -/
def DefC (K : PySem.W.Frag) (C : Addr) (m qual : Str) (st : Stmt) (ps : List Str) : Prop := ∃ mc p g fd, Fun K m qual st g fd ∧ CRead K C mc ∧ CMet K C mc m p g ∧ Binds K fd ps []
def COk (P : Program) (w : World) (K : PySem.W.Frag) (mg : Str → Option Value) (base : Heap) (CX : CXT) (k : Nat) (C : Addr) (m : Str) (sp : Sp) : Prop :=
  ∃ mc p g, FnR P w K mg base CX k g sp ∧ CRead K C mc ∧ CMet K C mc m p g
/-- __init__ of the class at C, all its parameters plain -/
def DefK (K : PySem.W.Frag) (C : Addr) (qual : Str) (st : Stmt) (ps : List Str) : Prop := ∃ f fd, Fun K "__init__" qual st f fd ∧ Mk K C f ∧ Binds K fd ps []
/-- __init__(self, *v) of the class at C -/
def DefKS (K : PySem.W.Frag) (C : Addr) (qual : Str) (st : Stmt) (ps : List Str) (pv : Str) : Prop := ∃ f fd, Fun K "__init__" qual st f fd ∧ Mk K C f ∧
  ∀ us rest : List Value, us.length = ps.length → bindArgs fd ⟨us ++ rest, []⟩ = (newTuple rest >>= fun t => pure (ps.zip us ++ [(pv, t)]))
/-- a def f(.., *v) -/
def DefGS (K : PySem.W.Frag) (mg : Str → Option Value) (x : Str) (st : Stmt) (ps : List Str) (pv : Str) : Prop := ∃ f fd, Fun K x x st f fd ∧ mg x = some (.ref f) ∧
  ∀ us rest : List Value, us.length = ps.length → bindArgs fd ⟨us ++ rest, []⟩ = (newTuple rest >>= fun t => pure (ps.zip us ++ [(pv, t)]))
/-- a def whose last parameters have defaults -/
def DefGD (K : PySem.W.Frag) (mg : Str → Option Value) (x : Str) (st : Stmt) (ps : List Str) (dvs : List V) : Prop := ∃ f fd ds, Fun K x x st f fd ∧ mg x = some (.ref f) ∧ Binds K fd ps ds ∧ Vals dvs ds
section
variable {P : Program} {w : World} {K : PySem.W.Frag} {mg : Str → Option Value} {base : Heap} {CX : CXT} {k : Nat} {f C : Addr} {fd : FuncData} {ps : List Str} {sp : Sp} {x m qual : Str} {st : Stmt}
theorem DefP.ok {N : List Str} (D : DefP K C m qual st) (S : FnScope N ["self"] (defScope st)) (len : ∀ vs H Q E, sp vs H Q E → vs.length = 1)
    (hbody : ∀ (f : Addr) (cdv : Value) (A : Around) (outer : List Env) (s : Shared) (H : Hp) (vs : List V) (Q : VK) (E : XK), Room k (A.deeper (envOfC qual (defScope st) s.heap.objs.size f cdv)) → sp vs H Q E →
      ∃ t, PSs (cxOf CX0 P w K mg base N qual (defScope st) f cdv A outer s H E).nox (defBody st) t ∧ t { nx := fun _ H' => Q .non H', rt := Q } (start N vs) H) : POk P w K mg base CX0 (k + 1) C m sp := by
  obtain ⟨p, g, fd, F, hp, b⟩ := D
  exact ⟨p, g, fd, F.ok S len fun cdv A outer s H vs Q E hr h => hbody g cdv A outer s H vs Q E hr h, hp, b⟩
theorem DefC.ok {N : List Str} (D : DefC K C m qual st ps) (S : FnScope N ps (defScope st)) (len : ∀ vs H Q E, sp vs H Q E → vs.length = ps.length)
    (hbody : ∀ (f : Addr) (cdv : Value) (A : Around) (outer : List Env) (s : Shared) (H : Hp) (vs : List V) (Q : VK) (E : XK), Room k (A.deeper (envOfC qual (defScope st) s.heap.objs.size f cdv)) → sp vs H Q E →
      ∃ t, PSs (cxOf CX0 P w K mg base N qual (defScope st) f cdv A outer s H E).nox (defBody st) t ∧ t { nx := fun _ H' => Q .non H', rt := Q } (start N vs) H) : COk P w K mg base CX0 (k + 1) C m sp := by
  obtain ⟨mc, p, g, fd, F, r, c, b⟩ := D
  exact ⟨mc, p, g, FnOk.toR (F.ok S len fun cdv A outer s H vs Q E hr h => hbody g cdv A outer s H vs Q E hr h) b, r, c⟩
theorem DefK.ok {N : List Str} (D : DefK K C qual st ps) (S : FnScope N ps (defScope st)) (len : ∀ vs H Q E, sp vs H Q E → vs.length = ps.length)
    (hbody : ∀ (f : Addr) (cdv : Value) (A : Around) (outer : List Env) (s : Shared) (H : Hp) (vs : List V) (Q : VK) (E : XK), Room k (A.deeper (envOfC qual (defScope st) s.heap.objs.size f cdv)) → sp vs H Q E →
      ∃ t, PSs (cxOf CX0 P w K mg base N qual (defScope st) f cdv A outer s H E).nox (defBody st) t ∧ t { nx := fun _ H' => Q .non H', rt := Q } (start N vs) H) : KOk P w K mg base CX0 (k + 1) C sp := by
  obtain ⟨f, fd, F, M, b⟩ := D
  exact ⟨f, FnOk.toR (F.ok S len fun cdv A outer s H vs Q E hr h => hbody f cdv A outer s H vs Q E hr h) b, M⟩
/-- the star promise around the body's own -/
def spStar (n : Nat) (sp : Sp) : Sp := fun vs H Q E => ∃ ws rest, vs = ws ++ rest ∧ ws.length = n ∧ rest.length ≤ sizeLine ∧ ∀ p, H p = Option.none → sp (ws ++ [V.ref p]) (upd H p (.tup rest)) Q E
theorem DefKS.ok {N : List Str} {pv : Str} (D : DefKS K C qual st ps pv) (S : FnScope N (ps ++ [pv]) (defScope st))
    (hbody : ∀ (f : Addr) (cdv : Value) (A : Around) (outer : List Env) (s : Shared) (H : Hp) (vs : List V) (Q : VK) (E : XK), Room k (A.deeper (envOfC qual (defScope st) s.heap.objs.size f cdv)) → sp vs H Q E →
      ∃ t, PSs (cxOf CX0 P w K mg base N qual (defScope st) f cdv A outer s H E).nox (defBody st) t ∧ t { nx := fun _ H' => Q .non H', rt := Q } (start N vs) H) : KOk P w K mg base CX0 (k + 1) C (spStar ps.length sp) := by
  obtain ⟨f, fd, F, M, hb⟩ := D
  obtain ⟨oc, od, kV, doc, pm, an, cdv, ct, osl, rfl, lk, hcd⟩ := F.ex
  refine ⟨f, fn_star (sp := sp) lk hcd S cxUp_none hb fun A outer s H vs Q E hr h => ?_, M⟩
  obtain ⟨t, ht, q⟩ := hbody f cdv A outer s H vs Q E hr h
  exact ⟨t, ht.nox, q⟩
theorem DefGS.ok {N : List Str} {pv : Str} (D : DefGS K mg x st ps pv) (S : FnScope N (ps ++ [pv]) (defScope st))
    (hbody : ∀ (f : Addr) (cdv : Value) (A : Around) (outer : List Env) (s : Shared) (H : Hp) (vs : List V) (Q : VK) (E : XK), Room k (A.deeper (envOfC x (defScope st) s.heap.objs.size f cdv)) → sp vs H Q E →
      ∃ t, PSs (cxOf CX0 P w K mg base N x (defScope st) f cdv A outer s H E).nox (defBody st) t ∧ t { nx := fun _ H' => Q .non H', rt := Q } (start N vs) H) : GOk P w K mg base CX0 (k + 1) x (spStar ps.length sp) := by
  obtain ⟨f, fd, F, a, hb⟩ := D
  obtain ⟨oc, od, kV, doc, pm, an, cdv, ct, osl, rfl, lk, hcd⟩ := F.ex
  refine ⟨f, fn_star (sp := sp) lk hcd S cxUp_none hb fun A outer s H vs Q E hr h => ?_, a, F.kp⟩
  obtain ⟨t, ht, q⟩ := hbody f cdv A outer s H vs Q E hr h
  exact ⟨t, ht.nox, q⟩
theorem DefGD.ok {N : List Str} {dvs : List V} (D : DefGD K mg x st ps dvs) (S : FnScope N ps (defScope st)) (len : ∀ vs H Q E, sp vs H Q E → vs.length = ps.length)
    (hbody : ∀ (f : Addr) (cdv : Value) (A : Around) (outer : List Env) (s : Shared) (H : Hp) (vs : List V) (Q : VK) (E : XK), Room k (A.deeper (envOfC x (defScope st) s.heap.objs.size f cdv)) → sp vs H Q E →
      ∃ t, PSs (cxOf CX0 P w K mg base N x (defScope st) f cdv A outer s H E).nox (defBody st) t ∧ t { nx := fun _ H' => Q .non H', rt := Q } (start N vs) H) : GOk P w K mg base CX0 (k + 1) x (fun vs => sp (vs ++ dvs)) := by
  obtain ⟨f, fd, ds, F, a, b, hd⟩ := D
  exact ⟨f, FnOk.toR1 (F.ok S len fun cdv A outer s H vs Q E hr h => hbody f cdv A outer s H vs Q E hr h) b hd, a, F.kp⟩
end
section
variable {X : Cx} {CX : CXT} {k : Nat} {C : Addr} {sp : Sp} {E : XK} {f m : Str} {e o : Expr} {es : List Expr} {te ta : TE} {t : TA} {p pos apos : Pos}
theorem pe_p (he : PE X e ta) (c : Cls X.K C) (G : POk X.prog X.w X.K X.mg X.base CX k C f sp) (hr : Room (k + 1) X.A) (hx : Passes CX X.nox E) (hab : attributeBase e f X.env (eval e X.env) = eval e X.env := by rfl) : PE X (.Attribute e f pos) (tProp C sp [] E ta) :=
  let ⟨_, _, _, F, hp, b⟩ := G
  pe_prop he c hp F hr b .nil hx hab
theorem pe_c {pl : Sem Bool} (he : PE X o ta) (G : COk X.prog X.w X.K X.mg X.base CX k C m sp) (hr : Room k X.A) (hx : Passes CX X E) (ha : PA X (e :: es) t)
    (hst : starEach (e :: es) X.env = (false, eval e X.env) :: starEach es X.env := by rfl) (hpl : (backTo pos (starEach es X.env)).any (·.1) = false := by rfl)
    (ht : eval (.Call (.Attribute o m apos) (e :: es) [] pos) X.env = (do
      let ov ← eval o X.env
      standAt apos.atName
      let (f, first) ← holding [ov] (getMethod ov m pl)
      callWith pos f first (backTo pos (starEach (e :: es) X.env)) (backToKw pos (keywordEach [] X.env))) := by rfl) :
    PE X (.Call (.Attribute o m apos) (e :: es) [] pos) (tCMeth C sp E ta t) :=
  let ⟨_, _, _, F, r, c⟩ := G
  pe_cmeth (pl := pl) he r c F hr hx ha hst hpl ht
theorem rd_prop {σ : St} {H : Hp} {Q : VK} (h : ta σ H fun x H1 => ∃ a dx fs, x = .ref a ∧ H1 a = some (.ins C dx fs) ∧ sp [.ref a] H1 Q E) : tProp C sp [] E ta σ H Q := h
theorem rd_prop_at {a : Addr} {H : Hp} {Q : VK} (i : InsA H a C) (h : sp [.ref a] H Q E) : ∃ a' dx fs, V.ref a = .ref a' ∧ H a' = some (.ins C dx fs) ∧ sp [.ref a'] H Q E := let ⟨dx, fs, e⟩ := i; ⟨a, dx, fs, rfl, e, h⟩
theorem rd_cmeth {σ : St} {H : Hp} {Q : VK} (h : ta σ H fun x H1 => x = .ref C ∧ t σ H1 fun vs H2 => sp (.ref C :: vs) H2 Q E) : tCMeth C sp E ta t σ H Q := h
/-- calling an instance -/
def OOk (P : Program) (w : World) (K : PySem.W.Frag) (mg : Str → Option Value) (base : Heap) (CX : CXT) (k : Nat) (C : Addr) (sp : Sp) : Prop := ∃ g, FnR P w K mg base CX k g sp ∧ CallO K C g
def tO (C : Addr) (sp : Sp) (E : XK) (tf : TE) (t : TA) : TE := fun σ H Q => tf σ H fun y H1 => ∃ a, y = V.ref a ∧ t σ H1 fun vs H2 => InsA H2 a C ∧ sp (V.ref a :: vs) H2 Q E
theorem rd_o {σ : St} {H : Hp} {Q : VK} (h : ta σ H fun y H1 => ∃ a, y = V.ref a ∧ t σ H1 fun vs H2 => InsA H2 a C ∧ sp (V.ref a :: vs) H2 Q E) : tO C sp E ta t σ H Q := h
end
end L2.Px
namespace L2.Px
open PySem PySem.Spec PyProof.Rows StX ClX
def DefX (K : PySem.W.Frag) (R : Addr → Prop) (m qual : Str) (st : Stmt) (ps : List Str) : Prop := ∃ f fd, Fun K m qual st f fd ∧ R f ∧ Binds K fd ps []
def XOk (P : Program) (w : World) (K : PySem.W.Frag) (mg : Str → Option Value) (base : Heap) (CX : CXT) (k : Nat) (R : Addr → Prop) (sp : Sp) : Prop := ∃ f, FnR P w K mg base CX k f sp ∧ R f
section
variable {P : Program} {w : World} {K : PySem.W.Frag} {mg : Str → Option Value} {base : Heap} {CX : CXT} {k : Nat} {f C : Addr} {fd : FuncData} {ps : List Str} {sp : Sp} {x m qual : Str} {st : Stmt} {R : Addr → Prop}
theorem DefX.ok {N : List Str} (D : DefX K R m qual st ps) (S : FnScope N ps (defScope st)) (len : ∀ vs H Q E, sp vs H Q E → vs.length = ps.length)
    (hbody : ∀ (f : Addr) (cdv : Value) (A : Around) (outer : List Env) (s : Shared) (H : Hp) (vs : List V) (Q : VK) (E : XK), Room k (A.deeper (envOfC qual (defScope st) s.heap.objs.size f cdv)) → sp vs H Q E →
      ∃ t, PSs (cxOf CX0 P w K mg base N qual (defScope st) f cdv A outer s H E).nox (defBody st) t ∧ t { nx := fun _ H' => Q .non H', rt := Q } (start N vs) H) : XOk P w K mg base CX0 (k + 1) R sp := by
  obtain ⟨f, fd, F, r, b⟩ := D
  exact ⟨f, FnOk.toR (F.ok S len fun cdv A outer s H vs Q E hr h => hbody f cdv A outer s H vs Q E hr h) b, r⟩
end
section
variable {X : Cx} {CX : CXT} {k : Nat} {C : Addr} {sp : Sp} {E : XK} {a b : Expr} {ta tb : TE} {pos : Pos}
theorem rd_own {p q : Addr} {H : Hp} {Q : VK} (i : InsA H p C) (j : InsA H q C) (h : sp [.ref p, .ref q] H Q E) : rOwn C sp E (.ref p) (.ref q) H Q := ⟨p, q, rfl, rfl, i, j, h⟩
theorem rd_ownI {p : Addr} {z : Int} {H : Hp} {Q : VK} (i : InsA H p C) (h : sp [.ref p, .int z] H Q E) : rOwnI C sp E (.ref p) (.int z) H Q := ⟨p, z, rfl, rfl, i, h⟩
end
end L2.Px
set_option Elab.async false
set_option linter.all false
namespace L2.Px
open PySem L2 TL
inductive Stp where
  | wr (w : Str)
  | pa (f l t : Nat)
deriving DecidableEq
def len1 : Stp → Nat
  | .wr w => w.length
  | .pa f l t => (l - f + 1) * t
def sz : List Stp → Nat
  | [] => 0
  | s :: r => len1 s + sz r
def ty1 : Stp → List Nat
  | .wr w => tl w
  | .pa _ _ _ => []
def tyL : List Stp → List Nat
  | [] => []
  | s :: r => ty1 s ++ tyL r
def okStep (n : Nat) : Stp → Prop
  | .wr w => 1 ≤ w.length ∧ w.length ≤ 20 ∧ ∀ c ∈ tl w, 97 ≤ c ∧ c ≤ 122
  | .pa f l t => f ≤ l ∧ l < n ∧ 1 ≤ t ∧ t ≤ 1000000000
def okFrom : Nat → List Stp → Prop
  | _, [] => True
  | n, s :: r => okStep n s ∧ n + len1 s ≤ 1000000000000000000 ∧ okFrom (n + len1 s) r
def stepK (q : List Nat × Nat) : Stp → List Nat × Nat
  | .wr w => (q.1 ++ List.range' q.2 w.length, q.2 + w.length)
  | .pa f l t => (q.1 ++ (List.replicate t ((q.1.drop f).take (l - f + 1))).flatten, q.2)
def run (ss : List Stp) : List Nat × Nat := ss.foldl stepK ([], 0)
/-- the keys of all places -/
def ks (ss : List Stp) : List Nat := (run ss).1
theorem sz_append : ∀ (a b : List Stp), sz (a ++ b) = sz a + sz b
  | [], b => by simp [sz]
  | s :: a, b => by simp only [List.cons_append, sz]; rw [sz_append a b]; omega
theorem tyL_append : ∀ (a b : List Stp), tyL (a ++ b) = tyL a ++ tyL b
  | [], b => by simp [tyL]
  | s :: a, b => by simp only [List.cons_append, tyL]; rw [tyL_append a b, List.append_assoc]
theorem okFrom_append : ∀ (n : Nat) (a b : List Stp), okFrom n (a ++ b) ↔ okFrom n a ∧ okFrom (n + sz a) b
  | n, [], b => by simp [okFrom, sz]
  | n, s :: a, b => by
    simp only [List.cons_append, okFrom, sz]
    rw [okFrom_append (n + len1 s) a b, show n + (len1 s + sz a) = n + len1 s + sz a by omega]
    constructor
    · rintro ⟨h1, h2, h3, h4⟩; exact ⟨⟨h1, h2, h3⟩, h4⟩
    · rintro ⟨⟨h1, h2, h3⟩, h4⟩; exact ⟨h1, h2, h3, h4⟩
theorem run_append (a b : List Stp) : run (a ++ b) = b.foldl stepK (run a) := List.foldl_append
theorem take_snoc {α : Type} {l : List α} {j : Nat} {s : α} (h : l[j]? = some s) : l.take (j + 1) = l.take j ++ [s] := by
  rw [List.take_add_one, h]; rfl
theorem sz_take {ss : List Stp} {j : Nat} {s : Stp} (h : ss[j]? = some s) : sz (ss.take (j + 1)) = sz (ss.take j) + len1 s := by
  rw [take_snoc h, sz_append]; simp [sz]
theorem run_take {ss : List Stp} {j : Nat} {s : Stp} (h : ss[j]? = some s) : run (ss.take (j + 1)) = stepK (run (ss.take j)) s := by
  rw [take_snoc h, run_append]; rfl
theorem tyL_take {ss : List Stp} {j : Nat} {s : Stp} (h : ss[j]? = some s) : tyL (ss.take (j + 1)) = tyL (ss.take j) ++ ty1 s := by
  rw [take_snoc h, tyL_append]; simp [tyL]
theorem ok_at {ss : List Stp} {j : Nat} {s : Stp} (ok : okFrom 0 ss) (h : ss[j]? = some s) : okStep (sz (ss.take j)) s ∧ sz (ss.take j) + len1 s ≤ 1000000000000000000 := by
  have e : ss = ss.take j ++ (s :: ss.drop (j + 1)) := by
    have hj : j < ss.length := (List.getElem?_eq_some_iff.mp h).1
    have hs : ss[j] = s := (List.getElem?_eq_some_iff.mp h).2
    rw [← hs, ← List.drop_eq_getElem_cons hj, List.take_append_drop]
  rw [e, okFrom_append] at ok
  obtain ⟨_, h1, h2, _⟩ := ok
  simp only [Nat.zero_add] at h1 h2
  exact ⟨h1, h2⟩
theorem ok_take {ss : List Stp} (ok : okFrom 0 ss) (j : Nat) : okFrom 0 (ss.take j) := by
  rw [← List.take_append_drop j ss, okFrom_append] at ok
  exact ok.1
theorem sz_le {ss : List Stp} (ok : okFrom 0 ss) : sz ss ≤ 1000000000000000000 := by
  rcases Nat.eq_zero_or_pos ss.length with h | h
  · rw [List.length_eq_zero_iff.mp h]; simp [sz]
  · have hj : ss[ss.length - 1]? = some (ss[ss.length - 1]'(by omega)) := by rw [List.getElem?_eq_getElem]
    have := (ok_at ok hj).2
    rw [← sz_take hj, show ss.length - 1 + 1 = ss.length by omega, List.take_length] at this
    exact this
theorem run_snd_from : ∀ (ss : List Stp) (q : List Nat × Nat), (ss.foldl stepK q).2 = q.2 + (tyL ss).length
  | [], q => by simp [tyL]
  | .wr w :: r, q => by
    simp only [List.foldl_cons, tyL, List.length_append, ty1]
    rw [run_snd_from r]; simp only [stepK]; rw [len_tl w]; omega
  | .pa f l t :: r, q => by
    simp only [List.foldl_cons, tyL, List.length_append, ty1]
    rw [run_snd_from r]; simp [stepK]
theorem run_snd (ss : List Stp) : (run ss).2 = (tyL ss).length := by
  unfold run; rw [run_snd_from]; simp
theorem length_flat_rep {α : Type} (t : Nat) (l : List α) : (List.replicate t l).flatten.length = t * l.length := by
  induction t with
  | zero => simp
  | succ t ih => rw [List.replicate_succ, List.flatten_cons, List.length_append, ih, Nat.succ_mul]; omega
theorem stepK_len {q : List Nat × Nat} {s : Stp} (h : okStep q.1.length s) : (stepK q s).1.length = q.1.length + len1 s := by
  cases s with
  | wr w => simp [stepK, len1]
  | pa f l t =>
    obtain ⟨h1, h2, _, _⟩ := h
    simp only [stepK, len1, List.length_append, length_flat_rep, List.length_take, List.length_drop]
    rw [Nat.min_eq_left (by omega), Nat.mul_comm]
theorem ks_len_from : ∀ (ss : List Stp) (q : List Nat × Nat), okFrom q.1.length ss → (ss.foldl stepK q).1.length = q.1.length + sz ss
  | [], q, _ => by simp [sz]
  | s :: r, q, ok => by
    obtain ⟨h1, h2, h3⟩ := ok
    have e := stepK_len h1
    rw [List.foldl_cons, ks_len_from r _ (by rw [e]; exact h3), e]
    simp only [sz]; omega
theorem ks_len {ss : List Stp} (ok : okFrom 0 ss) : (ks ss).length = sz ss := by
  have := ks_len_from ss ([], 0) ok
  simpa [ks, run] using this
/-- the keys of the first steps' places stand ahead -/
theorem stepK_pre (q : List Nat × Nat) (s : Stp) : ∃ m, (stepK q s).1 = q.1 ++ m := by
  cases s <;> exact ⟨_, rfl⟩
theorem run_pre : ∀ (ss : List Stp) (q : List Nat × Nat), ∃ m, (ss.foldl stepK q).1 = q.1 ++ m
  | [], q => ⟨[], by simp⟩
  | s :: r, q => by
    obtain ⟨m, e⟩ := stepK_pre q s
    obtain ⟨m', e'⟩ := run_pre r (stepK q s)
    exact ⟨m ++ m', by rw [List.foldl_cons, e', e, List.append_assoc]⟩
theorem ks_pre (a b : List Stp) : ∃ m, ks (a ++ b) = ks a ++ m := by
  unfold ks
  rw [run_append]
  exact run_pre b (run a)
theorem ks_take {ss : List Stp} (ok : okFrom 0 ss) (j : Nat) {p : Nat} (h : p < sz (ss.take j)) : (ks ss)[p]? = (ks (ss.take j))[p]? := by
  obtain ⟨m, e⟩ := ks_pre (ss.take j) (ss.drop j)
  rw [List.take_append_drop] at e
  rw [e, List.getElem?_append_left (by rw [ks_len (ok_take ok j)]; exact h)]
theorem flat_rep_get {α : Type} {l : List α} (hl : 0 < l.length) : ∀ (t i : Nat), i < t * l.length → (List.replicate t l).flatten[i]? = l[i % l.length]?
  | 0, i, h => by simp at h
  | t + 1, i, h => by
    rw [List.replicate_succ, List.flatten_cons]
    by_cases hi : i < l.length
    · rw [List.getElem?_append_left hi, Nat.mod_eq_of_lt hi]
    · rw [List.getElem?_append_right (by omega), flat_rep_get hl t (i - l.length) (by rw [Nat.succ_mul] at h; omega)]
      rw [← Nat.mod_eq_sub_mod (by omega)]
/-- a typed place -/
theorem ks_wr {ss : List Stp} {j : Nat} {w : Str} (ok : okFrom 0 ss) (h : ss[j]? = some (.wr w)) {p : Nat} (h1 : sz (ss.take j) ≤ p) (h2 : p < sz (ss.take (j + 1))) : (ks ss)[p]? = some ((tyL (ss.take j)).length + (p - sz (ss.take j))) := by
  rw [ks_take ok (j + 1) h2]
  have hs := sz_take h
  simp only [len1] at hs
  unfold ks
  rw [run_take h]
  simp only [stepK]
  have e : (run (ss.take j)).1.length = sz (ss.take j) := ks_len (ok_take ok j)
  rw [List.getElem?_append_right (by rw [e]; exact h1), e, run_snd, List.getElem?_range' (by omega)]
  simp
/-- a pasted place -/
theorem ks_pa {ss : List Stp} {j f l t : Nat} (ok : okFrom 0 ss) (h : ss[j]? = some (.pa f l t)) {p : Nat} (h1 : sz (ss.take j) ≤ p) (h2 : p < sz (ss.take (j + 1))) :
    f + (p - sz (ss.take j)) % (l - f + 1) < sz (ss.take j) ∧ (ks ss)[p]? = (ks ss)[f + (p - sz (ss.take j)) % (l - f + 1)]? := by
  obtain ⟨⟨a1, a2, a3, a4⟩, _⟩ := ok_at ok h
  have hm : (p - sz (ss.take j)) % (l - f + 1) < l - f + 1 := Nat.mod_lt _ (by omega)
  refine ⟨by omega, ?_⟩
  rw [ks_take ok (j + 1) h2, ks_take ok j (p := f + (p - sz (ss.take j)) % (l - f + 1)) (by omega)]
  have hs := sz_take h
  simp only [len1] at hs
  have e : (run (ss.take j)).1.length = sz (ss.take j) := ks_len (ok_take ok j)
  unfold ks
  rw [run_take h]
  simp only [stepK]
  have el : (((run (ss.take j)).1.drop f).take (l - f + 1)).length = l - f + 1 := by
    rw [List.length_take, List.length_drop, e]; omega
  rw [List.getElem?_append_right (by rw [e]; exact h1), e, flat_rep_get (by rw [el]; omega) _ _ (by rw [el, Nat.mul_comm]; omega), el, List.getElem?_take]
  rw [if_pos hm, List.getElem?_drop]
/-- all keys are keys -/
theorem stepK_lt {q : List Nat × Nat} {s : Stp} (h : ∀ k ∈ q.1, k < q.2) : ∀ k ∈ (stepK q s).1, k < (stepK q s).2 := by
  cases s with
  | wr w =>
    intro k hk
    simp only [stepK, List.mem_append, List.mem_range'_1] at hk ⊢
    rcases hk with hk | hk
    · have := h k hk; omega
    · omega
  | pa f l t =>
    intro k hk
    simp only [stepK, List.mem_append, List.mem_flatten, List.mem_replicate] at hk ⊢
    rcases hk with hk | ⟨l', ⟨_, rfl⟩, hk⟩
    · exact h k hk
    · exact h k (List.mem_of_mem_drop (List.mem_of_mem_take hk))
theorem run_lt : ∀ (ss : List Stp) (q : List Nat × Nat), (∀ k ∈ q.1, k < q.2) → ∀ k ∈ (ss.foldl stepK q).1, k < (ss.foldl stepK q).2
  | [], q, h => h
  | s :: r, q, h => run_lt r _ (stepK_lt h)
theorem ks_lt {ss : List Stp} {k : Nat} (h : k ∈ ks ss) : k < (tyL ss).length := by
  have := run_lt ss ([], 0) (by simp) k h
  rw [← run_snd]; exact this
end L2.Px
set_option Elab.async false
set_option linter.all false
set_option maxRecDepth 100000
set_option maxHeartbeats 1000000
namespace L2.Px
open PySem PySem.Spec PyProof.Rows StX TL
def isInt (lo hi : Int) : V → Bool
  | .int i => decide (lo ≤ i ∧ i ≤ hi)
  | _ => false
def isLet : V → Bool
  | .str x => match tl x with
    | [c] => decide (97 ≤ c ∧ c ≤ 122)
    | _ => false
  | _ => false
def isWd : V → Bool
  | .str x => decide (1 ≤ (tl x).length ∧ (tl x).length ≤ 20 ∧ ∀ c ∈ tl x, 97 ≤ c ∧ c ≤ 122)
  | _ => false
def intOf : V → Int
  | .int i => i
  | _ => 0
def isSt (n : Int) : List V → Bool
  | [.str z, v] => decide (z = "write") && isWd v
  | [.str z, f, l, t] => decide (z = "paste") && (isInt 0 (n - 1) l && isInt 0 (intOf l) f && isInt 1 1000000000 t)
  | _ => false
def sp_is_integer : Sp := fun vs H Q _ => ∃ v lo hi, vs = [v, .int lo, .int hi] ∧ NoSeq v ∧ Q (.bl (isInt lo hi v)) H
def sp_is_letter : Sp := fun vs H Q _ => ∃ v, vs = [v] ∧ NoSeq v ∧ (∀ x, v = .str x → x.length ≤ sizeLine) ∧ Q (.bl (isLet v)) H
def sp_is_word : Sp := fun vs H Q _ => ∃ v, vs = [v] ∧ NoSeq v ∧ (∀ x, v = .str x → x.length ≤ sizeLine) ∧ ∀ H', Same H H' → Q (.bl (isWd v)) H'
def mkS (l : List Nat) : Str := ⟨l.toArray⟩
theorem tl_mkS (l : List Nat) : tl (mkS l) = l := rfl
theorem mkS_tl (x : Str) : mkS (tl x) = x := mk_tl x
theorem mkS_len (l : List Nat) : (mkS l).length = l.length := by rw [len_tl, tl_mkS]
theorem mkS_app (a b : List Nat) : mkS a ++ mkS b = mkS (a ++ b) := ext_tl (by rw [tl_append, tl_mkS, tl_mkS, tl_mkS])
def partF (s n : Int) (t : Bool) (f l : Int) : List (Str × V) := putF "last" (.int l) (putF "first" (.int f) (putF "is_typed" (.bl t) (putF "length" (.int n) (putF "start" (.int s) []))))
def textF (m : Addr) (y : Str) (p : Addr) (n : Int) : List (Str × V) := putF "total" (.int n) (putF "parts" (.ref p) (putF "typed" (.str y) (putF "made" (.ref m) [])))
section
variable {s n f l : Int} {t : Bool} {m p : Addr} {y x : Str}
theorem partF_start : (partF s n t f l).lookup ("start" : Str) = some (.int s) := by
  unfold partF; rw [lookup_putF, if_neg (by decide +kernel), lookup_putF, if_neg (by decide +kernel), lookup_putF, if_neg (by decide +kernel), lookup_putF, if_neg (by decide +kernel), lookup_putF, if_pos rfl]
theorem partF_length : (partF s n t f l).lookup ("length" : Str) = some (.int n) := by
  unfold partF; rw [lookup_putF, if_neg (by decide +kernel), lookup_putF, if_neg (by decide +kernel), lookup_putF, if_neg (by decide +kernel), lookup_putF, if_pos rfl]
theorem partF_typed : (partF s n t f l).lookup ("is_typed" : Str) = some (.bl t) := by
  unfold partF; rw [lookup_putF, if_neg (by decide +kernel), lookup_putF, if_neg (by decide +kernel), lookup_putF, if_pos rfl]
theorem partF_first : (partF s n t f l).lookup ("first" : Str) = some (.int f) := by
  unfold partF; rw [lookup_putF, if_neg (by decide +kernel), lookup_putF, if_pos rfl]
theorem partF_last : (partF s n t f l).lookup ("last" : Str) = some (.int l) := by
  unfold partF; rw [lookup_putF, if_pos rfl]
theorem partF_no (h : x ≠ "last" ∧ x ≠ "first" ∧ x ≠ "is_typed" ∧ x ≠ "length" ∧ x ≠ "start") : (partF s n t f l).lookup x = none := by
  unfold partF; rw [lookup_putF, if_neg h.1, lookup_putF, if_neg h.2.1, lookup_putF, if_neg h.2.2.1, lookup_putF, if_neg h.2.2.2.1, lookup_putF, if_neg h.2.2.2.2]; rfl
theorem textF_typed : (textF m y p n).lookup ("typed" : Str) = some (.str y) := by
  unfold textF; rw [lookup_putF, if_neg (by decide +kernel), lookup_putF, if_neg (by decide +kernel), lookup_putF, if_pos rfl]
theorem textF_parts : (textF m y p n).lookup ("parts" : Str) = some (.ref p) := by
  unfold textF; rw [lookup_putF, if_neg (by decide +kernel), lookup_putF, if_pos rfl]
theorem textF_total : (textF m y p n).lookup ("total" : Str) = some (.int n) := by
  unfold textF; rw [lookup_putF, if_pos rfl]
theorem textF_no (h : x ≠ "total" ∧ x ≠ "parts" ∧ x ≠ "typed" ∧ x ≠ "made") : (textF m y p n).lookup x = none := by
  unfold textF; rw [lookup_putF, if_neg h.1, lookup_putF, if_neg h.2.1, lookup_putF, if_neg h.2.2.1, lookup_putF, if_neg h.2.2.2]; rfl
theorem putF_len {fs : List (Str × V)} {k : Nat} {f : Str} {v : V} (h : fs.length ≤ k) : (putF f v fs).length ≤ k + 1 := Nat.le_trans (length_putF f v fs) (Nat.succ_le_succ h)
end
/-- a written step as a tuple's items -/
def stV : Stp → List V
  | .wr w => [.str "write", .str w]
  | .pa f l t => [.str "paste", .int f, .int l, .int t]
def StepAt (K : PySem.W.Frag) (H : Hp) (v : V) (s : Stp) : Prop := ∃ a, v = .ref a ∧ SqT K H a (stV s)
def StepsAt (K : PySem.W.Frag) (H : Hp) (ms : List V) (ss : List Stp) : Prop := ms.length = ss.length ∧ ∀ (j : Nat) s, ss[j]? = some s → ∃ v, ms[j]? = some v ∧ StepAt K H v s
/-- the part of step j -/
def PartAt (CP : Addr) (H : Hp) (v : V) (n y : Nat) : Stp → Prop
  | .wr w => ∃ p dx, v = .ref p ∧ H p = some (.ins CP dx (partF n w.length true y 0))
  | .pa f l t => ∃ p dx, v = .ref p ∧ H p = some (.ins CP dx (partF n (((l - f + 1) * t : Nat)) false f l))
def PartsAt (CP : Addr) (H : Hp) (ps : List V) (ss : List Stp) : Prop := ps.length = ss.length ∧ ∀ (j : Nat) s, ss[j]? = some s → ∃ v, ps[j]? = some v ∧ PartAt CP H v (sz (ss.take j)) (tyL (ss.take j)).length s
structure TxI where
  ss : List Stp
  dx : Addr
  m : Addr
  pl : Addr
  ms : List V
  ps : List V
structure TextAt (K : PySem.W.Frag) (CT CP : Addr) (H : Hp) (a : Addr) (t : TxI) : Prop where
  ins : H a = some (.ins CT t.dx (textF t.m (mkS (tyL t.ss)) t.pl (sz t.ss)))
  made : SqT K H t.m t.ms
  stp : StepsAt K H t.ms t.ss
  pls : H t.pl = some (.lst t.ps)
  prt : PartsAt CP H t.ps t.ss
  ok : okFrom 0 t.ss
  few : t.ss.length ≤ 30
section
variable {K : PySem.W.Frag} {CT CP : Addr} {H H' : Hp} {a : Addr} {t : TxI} {v : V} {s : Stp} {ms ps : List V} {ss : List Stp} {n y : Nat}
theorem StepAt.mono (e : Same H H') (h : StepAt K H v s) : StepAt K H' v s := let ⟨a, ev, q⟩ := h; ⟨a, ev, Same.tup e q⟩
theorem StepsAt.mono (e : Same H H') (h : StepsAt K H ms ss) : StepsAt K H' ms ss := ⟨h.1, fun j s q => let ⟨v, a, b⟩ := h.2 j s q; ⟨v, a, b.mono e⟩⟩
theorem PartAt.mono (e : Same H H') (h : PartAt CP H v n y s) : PartAt CP H' v n y s := by
  cases s with
  | wr w => obtain ⟨p, dx, ev, q⟩ := h; exact ⟨p, dx, ev, e _ _ q⟩
  | pa f l t => obtain ⟨p, dx, ev, q⟩ := h; exact ⟨p, dx, ev, e _ _ q⟩
theorem PartsAt.mono (e : Same H H') (h : PartsAt CP H ps ss) : PartsAt CP H' ps ss := ⟨h.1, fun j s q => let ⟨v, a, b⟩ := h.2 j s q; ⟨v, a, b.mono e⟩⟩
theorem TextAt.mono (h : TextAt K CT CP H a t) (e : Same H H') : TextAt K CT CP H' a t := ⟨e _ _ h.ins, Same.tup e h.made, h.stp.mono e, e _ _ h.pls, h.prt.mono e, h.ok, h.few⟩
theorem TextAt.insA (h : TextAt K CT CP H a t) : InsA H a CT := ⟨_, _, h.ins⟩
theorem TextAt.insM {m : Str} (h : TextAt K CT CP H a t) (hm : m ≠ "total" ∧ m ≠ "parts" ∧ m ≠ "typed" ∧ m ≠ "made" := by decide +kernel) : InsM H a CT m := ⟨_, _, h.ins, textF_no hm⟩
theorem stV_noseq (s : Stp) : ∀ v ∈ stV s, NoSeq v := by
  cases s <;> (intro v hv; simp only [stV, List.mem_cons, List.not_mem_nil, or_false] at hv; rcases hv with rfl | hv) <;> first | trivial | (rcases hv with rfl | hv <;> first | trivial | (rcases hv with rfl | rfl <;> trivial)) | (subst hv; trivial)
end
section
variable (K : PySem.W.Frag) (CT CP : Addr)
def sp_Part_init : Sp := fun vs H Q _ => ∃ x dx s n t f l, vs = [.ref x, .int s, .int n, .bl t, .int f, .int l] ∧ H x = some (.ins CP dx []) ∧ Q .non (upd H x (.ins CP dx (partF s n t f l)))
def sp_Part_source : Sp := fun vs H Q _ => ∃ p dx s n t f l z, vs = [.ref p, .int z] ∧ H p = some (.ins CP dx (partF s n t f l)) ∧ (t = false → f ≤ l) ∧ Q (.int (if t then f + z - s else f + (z - s) % (l - f + 1))) H
/-- Text(*steps) of valid steps: all that stood stands, x is the text -/
def sp_Text_init : Sp := fun vs H Q _ => ∃ x dx m rs ss, vs = [.ref x, .ref m] ∧ H x = some (.ins CT dx []) ∧ SqT K H m rs ∧ StepsAt K H rs ss ∧ okFrom 0 ss ∧ ss.length ≤ 30 ∧
  ∀ H' t, (∀ b o, b ≠ x → H b = some o → H' b = some o) → TextAt K CT CP H' x t → t.ss = ss → t.dx = dx → Q .non H'
end
end L2.Px
namespace L2.Px
open PySem PySem.Spec PyProof.Rows StX TL
section
variable {K : PySem.W.Frag} {H : Hp} {Q : VK} {T : String}
theorem rd_isi {x c : V} {t u : Value} {b : Bool} (k : ClsV c u) (ty : TyX K H x t) (e : PySem.W.kitOne K t u = some b) (q : Q (.bl b) H) : rIsi K [x, c] H Q := ⟨x, c, t, u, b, rfl, k, ty, e, q⟩
def kb (a b : String) : Bool := (kitB a b).getD false
end
end L2.Px
namespace L2.Px
open PySem PySem.Spec PyProof.Rows StX TL
section
variable {K : PySem.W.Frag} {H : Hp} {Q : VK}
theorem rd_isi_int_int {i : Int} (q : Q (.bl true) H) : rIsi K [(.int i), .ty "int"] H Q := rd_isi (.ty _) (TyX.base (.int i)) (kit_ty (by decide +kernel)) q
theorem rd_isi_int_bool {i : Int} (q : Q (.bl false) H) : rIsi K [(.int i), .ty "bool"] H Q := rd_isi (.ty _) (TyX.base (.int i)) (kit_ty (by decide +kernel)) q
theorem rd_isi_int_str {i : Int} (q : Q (.bl false) H) : rIsi K [(.int i), .ty "str"] H Q := rd_isi (.ty _) (TyX.base (.int i)) (kit_ty (by decide +kernel)) q
theorem rd_isi_int_list {i : Int} (q : Q (.bl false) H) : rIsi K [(.int i), .ty "list"] H Q := rd_isi (.ty _) (TyX.base (.int i)) (kit_ty (by decide +kernel)) q
theorem rd_isi_int_tuple {i : Int} (q : Q (.bl false) H) : rIsi K [(.int i), .ty "tuple"] H Q := rd_isi (.ty _) (TyX.base (.int i)) (kit_ty (by decide +kernel)) q
theorem rd_isi_bl_int {c : Bool} (q : Q (.bl true) H) : rIsi K [(.bl c), .ty "int"] H Q := rd_isi (.ty _) (TyX.base (.bl c)) (kit_ty (by decide +kernel)) q
theorem rd_isi_bl_bool {c : Bool} (q : Q (.bl true) H) : rIsi K [(.bl c), .ty "bool"] H Q := rd_isi (.ty _) (TyX.base (.bl c)) (kit_ty (by decide +kernel)) q
theorem rd_isi_bl_str {c : Bool} (q : Q (.bl false) H) : rIsi K [(.bl c), .ty "str"] H Q := rd_isi (.ty _) (TyX.base (.bl c)) (kit_ty (by decide +kernel)) q
theorem rd_isi_bl_list {c : Bool} (q : Q (.bl false) H) : rIsi K [(.bl c), .ty "list"] H Q := rd_isi (.ty _) (TyX.base (.bl c)) (kit_ty (by decide +kernel)) q
theorem rd_isi_bl_tuple {c : Bool} (q : Q (.bl false) H) : rIsi K [(.bl c), .ty "tuple"] H Q := rd_isi (.ty _) (TyX.base (.bl c)) (kit_ty (by decide +kernel)) q
theorem rd_isi_str_int {x : Str} (q : Q (.bl false) H) : rIsi K [(.str x), .ty "int"] H Q := rd_isi (.ty _) (TyX.base (.str x)) (kit_ty (by decide +kernel)) q
theorem rd_isi_str_bool {x : Str} (q : Q (.bl false) H) : rIsi K [(.str x), .ty "bool"] H Q := rd_isi (.ty _) (TyX.base (.str x)) (kit_ty (by decide +kernel)) q
theorem rd_isi_str_str {x : Str} (q : Q (.bl true) H) : rIsi K [(.str x), .ty "str"] H Q := rd_isi (.ty _) (TyX.base (.str x)) (kit_ty (by decide +kernel)) q
theorem rd_isi_str_list {x : Str} (q : Q (.bl false) H) : rIsi K [(.str x), .ty "list"] H Q := rd_isi (.ty _) (TyX.base (.str x)) (kit_ty (by decide +kernel)) q
theorem rd_isi_str_tuple {x : Str} (q : Q (.bl false) H) : rIsi K [(.str x), .ty "tuple"] H Q := rd_isi (.ty _) (TyX.base (.str x)) (kit_ty (by decide +kernel)) q
theorem rd_isi_non_int  (q : Q (.bl false) H) : rIsi K [V.non, .ty "int"] H Q := rd_isi (.ty _) (TyX.base .non) (kit_ty (by decide +kernel)) q
theorem rd_isi_non_bool  (q : Q (.bl false) H) : rIsi K [V.non, .ty "bool"] H Q := rd_isi (.ty _) (TyX.base .non) (kit_ty (by decide +kernel)) q
theorem rd_isi_non_str  (q : Q (.bl false) H) : rIsi K [V.non, .ty "str"] H Q := rd_isi (.ty _) (TyX.base .non) (kit_ty (by decide +kernel)) q
theorem rd_isi_non_list  (q : Q (.bl false) H) : rIsi K [V.non, .ty "list"] H Q := rd_isi (.ty _) (TyX.base .non) (kit_ty (by decide +kernel)) q
theorem rd_isi_non_tuple  (q : Q (.bl false) H) : rIsi K [V.non, .ty "tuple"] H Q := rd_isi (.ty _) (TyX.base .non) (kit_ty (by decide +kernel)) q
theorem ty_lst {a : Addr} {xs : List V} (e : SqL K H a xs) : TyX K H (.ref a) (.type "list") := by
  rcases e with (q | ⟨o, q⟩) | ⟨o, _, _, q, c, _⟩
  · exact TyX.base (.lst q)
  · exact TyX.base (.frz q)
  · exact TyX.kList q c
theorem rd_isi_lst_list {a : Addr} {xs : List V} (e : SqL K H a xs) (q : Q (.bl true) H) : rIsi K [.ref a, .ty "list"] H Q := rd_isi (.ty _) (ty_lst e) (kit_ty (by decide +kernel)) q
theorem rd_isi_lst_tuple {a : Addr} {xs : List V} (e : SqL K H a xs) (q : Q (.bl false) H) : rIsi K [.ref a, .ty "tuple"] H Q := rd_isi (.ty _) (ty_lst e) (kit_ty (by decide +kernel)) q
theorem ty_tup {a : Addr} {xs : List V} (e : SqT K H a xs) : TyX K H (.ref a) (.type "tuple") := by
  rcases e with (q | ⟨o, q⟩) | ⟨o, _, _, q, c, _⟩
  · exact TyX.base (.tup q)
  · exact TyX.fTuple q
  · exact TyX.kTuple q c
theorem rd_isi_tup_list {a : Addr} {xs : List V} (e : SqT K H a xs) (q : Q (.bl false) H) : rIsi K [.ref a, .ty "list"] H Q := rd_isi (.ty _) (ty_tup e) (kit_ty (by decide +kernel)) q
theorem rd_isi_tup_tuple {a : Addr} {xs : List V} (e : SqT K H a xs) (q : Q (.bl true) H) : rIsi K [.ref a, .ty "tuple"] H Q := rd_isi (.ty _) (ty_tup e) (kit_ty (by decide +kernel)) q
end
end L2.Px
set_option Elab.async false
set_option linter.all false
set_option maxRecDepth 100000
set_option maxHeartbeats 1000000
namespace L2.Px
open PySem PySem.Spec PyProof.Rows StX TL
/-- all but what stands at x is as it was -/
def But (x : Addr) (H H' : Hp) : Prop := ∀ b o, b ≠ x → H b = some o → H' b = some o
section
variable {K : PySem.W.Frag} {CT CP : Addr} {H H' H1 : Hp} {a x : Addr} {t : TxI} {v : V} {s : Stp} {ms ps xs : List V} {ss : List Stp} {n y i : Nat} {o : HO}
theorem But.refl : But x H H := fun _ _ _ h => h
theorem But.trans (a : But x H H1) (b : But x H1 H') : But x H H' := fun c o hc h => b c o hc (a c o hc h)
theorem But.at (e : But x H H') : But x H (upd H' x o) := fun b u hb h => by rw [upd_ne hb]; exact e b u hb h
theorem But.new {p : Addr} (e : But x H H') (hp : H' p = none) : But x H (upd H' p o) := fun b u hb h => by rw [upd_ne (ne_of_none (e b u hb h) hp)]; exact e b u hb h
theorem But.same (e : Same H H') : But x H H' := fun b u _ h => e b u h
/-- an object that is no tuple and not locked -/
def Free1 (H : Hp) (x : Addr) : Prop := (∀ xs, H x ≠ some (.tup xs)) ∧ ∀ o u, H x ≠ some (.frz o u)
theorem free1_ins {C dx : Addr} {fs : List (Str × V)} (h : H x = some (.ins C dx fs)) : Free1 H x := ⟨fun xs e => (by rw [h] at e; cases e), fun o u e => (by rw [h] at e; cases e)⟩
theorem free1_lst (h : H x = some (.lst xs)) : Free1 H x := ⟨fun xs e => (by rw [h] at e; cases e), fun o u e => (by rw [h] at e; cases e)⟩
theorem But.tup (e : But x H H') (f : Free1 H x) (h : SqT K H a xs) : SqT K H' a xs := by
  rcases h with (h | ⟨o, h⟩) | h
  · exact .inl (.inl (e _ _ (fun z => f.1 xs (z ▸ h)) h))
  · exact .inl (.inr ⟨o, e _ _ (fun z => f.2 o _ (z ▸ h)) h⟩)
  · exact .inr h
theorem But.step (e : But x H H') (f : Free1 H x) (h : StepAt K H v s) : StepAt K H' v s := let ⟨a, ev, q⟩ := h; ⟨a, ev, e.tup f q⟩
theorem But.steps (e : But x H H') (f : Free1 H x) (h : StepsAt K H ms ss) : StepsAt K H' ms ss := ⟨h.1, fun j s q => let ⟨v, a, b⟩ := h.2 j s q; ⟨v, a, e.step f b⟩⟩
theorem But.part (e : But x H H') (f : ∀ dx fs, H x ≠ some (.ins CP dx fs)) (h : PartAt CP H v n y s) : PartAt CP H' v n y s := by
  cases s with
  | wr w => obtain ⟨p, dx, ev, q⟩ := h; exact ⟨p, dx, ev, e _ _ (fun z => f _ _ (z ▸ q)) q⟩
  | pa f' l t => obtain ⟨p, dx, ev, q⟩ := h; exact ⟨p, dx, ev, e _ _ (fun z => f _ _ (z ▸ q)) q⟩
theorem PartsAt.but (e : But x H H') (f : ∀ dx fs, H x ≠ some (.ins CP dx fs)) (h : PartsAt CP H ps ss) : PartsAt CP H' ps ss := ⟨h.1, fun j s q => let ⟨v, a, b⟩ := h.2 j s q; ⟨v, a, But.part e f b⟩⟩
theorem take_take_le {α : Type} {l : List α} {i j : Nat} (h : j ≤ i) : (l.take i).take j = l.take j := by rw [List.take_take, Nat.min_eq_left h]
theorem PartsAt.snoc (h : PartsAt CP H ps (ss.take i)) (hs : ss[i]? = some s) (e : But x H H') (f : ∀ dx fs, H x ≠ some (.ins CP dx fs)) (hp : PartAt CP H' v (sz (ss.take i)) (tyL (ss.take i)).length s) : PartsAt CP H' (ps ++ [v]) (ss.take (i + 1)) := by
  have hi : i < ss.length := (List.getElem?_eq_some_iff.mp hs).1
  have hl : ps.length = i := by rw [h.1, List.length_take]; omega
  refine ⟨by rw [List.length_append, hl, List.length_take]; simp; omega, fun j s' hj => ?_⟩
  have hj' : j < i + 1 := by
    have := (List.getElem?_eq_some_iff.mp hj).1
    rw [List.length_take] at this; omega
  rw [take_take_le (by omega)]
  rw [List.getElem?_take, if_pos hj'] at hj
  by_cases hji : j < i
  · obtain ⟨v', e1, e2⟩ := h.2 j s' (by rw [List.getElem?_take, if_pos hji]; exact hj)
    rw [take_take_le (by omega)] at e2
    exact ⟨v', by rw [List.getElem?_append_left (by omega)]; exact e1, But.part e f e2⟩
  · have ej : j = i := by omega
    subst ej
    rw [hs] at hj; cases hj
    exact ⟨v, by rw [List.getElem?_append_right (by omega), hl]; simp, hp⟩
theorem StepsAt.at (h : StepsAt K H ms ss) {j : Nat} (hv : ms[j]? = some v) : ∃ s, ss[j]? = some s ∧ StepAt K H v s := by
  have hj : j < ss.length := by rw [← h.1]; exact (List.getElem?_eq_some_iff.mp hv).1
  obtain ⟨v', e1, e2⟩ := h.2 j _ (List.getElem?_eq_getElem hj)
  rw [hv] at e1; cases e1
  exact ⟨_, List.getElem?_eq_getElem hj, e2⟩
theorem str_small {w : Str} (h : w.length ≤ 20) : w.length ≤ sizeLine := Nat.le_trans h (by rw [sizeLine_eq]; decide)
def mv (n : Nat) : Stp → Stp
  | .wr w => .wr w
  | .pa f l t => .pa (f + n) (l + n) t
def joinS (a b : List Stp) : List Stp := a ++ b.map (mv (sz a))
def rt (k c : Nat) : Nat → List Stp → List Stp
  | _, [] => []
  | n, .wr w :: r => (if n ≤ k ∧ k < n + w.length then .wr (mkS ((tl w).set (k - n) c)) else .wr w) :: rt k c (n + w.length) r
  | n, .pa f l t :: r => .pa f l t :: rt k c n r
end
section
variable (K : PySem.W.Frag) (CT CP : Addr)
def sp_is_step : Sp := fun vs H Q _ => ∃ v, ∃ (n : Nat), ∃ s, vs = [v, .int n] ∧ StepAt K H v s ∧ okStep n s ∧ ∀ H', Same H H' → Q (.bl true) H'
def sp_Text_of_steps : Sp := fun vs H Q _ => ∃ a ms ss, vs = [.ref CT, .ref a] ∧ (SqT K H a ms ∨ SqL K H a ms) ∧ StepsAt K H ms ss ∧ okFrom 0 ss ∧ ss.length ≤ 30 ∧ ∀ H' x t, Same H H' → TextAt K CT CP H' x t → t.ss = ss → Q (.ref x) H'
def sp_Text_steps : Sp := fun vs H Q _ => ∃ a t, vs = [.ref a] ∧ TextAt K CT CP H a t ∧ Q (.ref t.m) H
def sp_Text_typed_keys : Sp := fun vs H Q _ => ∃ a t, vs = [.ref a] ∧ TextAt K CT CP H a t ∧ Q (.str (mkS (tyL t.ss))) H
def sp_Text_size : Sp := fun vs H Q _ => ∃ a t, vs = [.ref a] ∧ TextAt K CT CP H a t ∧ Q (.int (sz t.ss)) H
def sp_Text_check_place : Sp := fun vs H Q _ => ∃ a t v, vs = [.ref a, v] ∧ TextAt K CT CP H a t ∧ NoSeq v ∧ isInt 0 ((sz t.ss : Int) - 1) v = true ∧ Q .non H
def sp_Text_key_of : Sp := fun vs H Q _ => ∃ a t, ∃ (p k : Nat), vs = [.ref a, .int p] ∧ TextAt K CT CP H a t ∧ (ks t.ss)[p]? = some k ∧ Q (.int k) H
def sp_Text_call : Sp := sp_Text_key_of K CT CP
def sp_Text_getitem : Sp := fun vs H Q _ => ∃ a t, ∃ (p k c : Nat), vs = [.ref a, .int p] ∧ TextAt K CT CP H a t ∧ (ks t.ss)[p]? = some k ∧ (tyL t.ss)[k]? = some c ∧ Q (.str ⟨#[c]⟩) H
def sp_Text_add : Sp := fun vs H Q _ => ∃ a b t u, vs = [.ref a, .ref b] ∧ TextAt K CT CP H a t ∧ TextAt K CT CP H b u ∧ okFrom 0 (joinS t.ss u.ss) ∧ (joinS t.ss u.ss).length ≤ 30 ∧ ∀ H' x z, Same H H' → TextAt K CT CP H' x z → z.ss = joinS t.ss u.ss → Q (.ref x) H'
def mulS (ss : List Stp) (n : Nat) : List Stp := if n = 1 ∨ sz ss = 0 then ss else ss ++ [.pa 0 (sz ss - 1) (n - 1)]
def sp_Text_mul : Sp := fun vs H Q _ => ∃ a t, ∃ (n : Nat), vs = [.ref a, .int n] ∧ TextAt K CT CP H a t ∧ 1 ≤ n ∧ n ≤ 1000000000 ∧ okFrom 0 (mulS t.ss n) ∧ (mulS t.ss n).length ≤ 30 ∧ ∀ H' x z, Same H H' → TextAt K CT CP H' x z → z.ss = mulS t.ss n → Q (.ref x) H'
def sp_Text_retyped : Sp := fun vs H Q _ => ∃ a t, ∃ (k c : Nat), vs = [.ref a, .int k, .str ⟨#[c]⟩] ∧ TextAt K CT CP H a t ∧ k < (tyL t.ss).length ∧ 97 ≤ c ∧ c ≤ 122 ∧ ∀ H' x z, Same H H' → TextAt K CT CP H' x z → z.ss = rt k c 0 t.ss → Q (.ref x) H'
end
end L2.Px
namespace L2.Px
open PySem PySem.Spec PyProof.Rows StX TL
section
variable {K : PySem.W.Frag} {H : Hp} {Q : VK} {x : Str} {a : Addr} {xs : List V}
def rLenA (K : PySem.W.Frag) : List V → Hp → VK → Prop := fun xs H Q => ∃ x n, xs = [x] ∧ LenV K x H n ∧ Q (.int n) H
theorem cLen {X : Cx} : CallR X (.builtin "len") (rLenA X.K) := call_len
theorem rd_len_str (hz : x.length ≤ sizeLine) (q : Q (.int (x.length : Nat)) H) : rLenA K [.str x] H Q := ⟨_, _, rfl, ⟨hz, rfl⟩, q⟩
theorem rd_len_lst (h : SqL K H a xs) (q : Q (.int (xs.length : Nat)) H) : rLenA K [.ref a] H Q := ⟨_, _, rfl, .inl ⟨_, h, rfl⟩, q⟩
theorem rd_len_tup (h : SqT K H a xs) (q : Q (.int (xs.length : Nat)) H) : rLenA K [.ref a] H Q := ⟨_, _, rfl, .inr ⟨_, h, rfl⟩, q⟩
def rIntA : List V → Hp → VK → Prop := fun xs H Q => (∃ i, xs = [.int i] ∧ Q (.int i) H) ∨ ∃ k, xs = [.bl k] ∧ Q (.int (if k then 1 else 0)) H
theorem cInt {X : Cx} : CallR X (.type "int") rIntA := call_int1
theorem rd_int_int {i : Int} (q : Q (.int i) H) : rIntA [.int i] H Q := .inl ⟨i, rfl, q⟩
theorem rd_int_bl {c : Bool} (q : Q (.int (if c then 1 else 0)) H) : rIntA [.bl c] H Q := .inr ⟨c, rfl, q⟩
def rListA (K : PySem.W.Frag) : List V → Hp → VK → Prop := fun xs H Q => ∃ p ys, xs = [.ref p] ∧ (SqL K H p ys ∨ SqT K H p ys) ∧ ∀ l, H l = none → Q (.ref l) (upd H l (.lst ys))
theorem cList {X : Cx} : CallR X (.type "list") (rListA X.K) := call_list_of
theorem rd_list_tup (h : SqT K H a xs) (q : ∀ l, H l = none → Q (.ref l) (upd H l (.lst xs))) : rListA K [.ref a] H Q := ⟨a, xs, rfl, .inr h, q⟩
def rTupA (K : PySem.W.Frag) : List V → Hp → VK → Prop := fun xs H Q => ∃ p ys, xs = [.ref p] ∧ ((SqL K H p ys ∧ ∀ l, H l = none → Q (.ref l) (upd H l (.tup ys))) ∨ (SqT K H p ys ∧ Q (.ref p) H))
theorem cTup {X : Cx} : CallR X (.type "tuple") (rTupA X.K) := call_tuple_of
theorem rd_tuple_lst (h : SqL K H a xs) (q : ∀ l, H l = none → Q (.ref l) (upd H l (.tup xs))) : rTupA K [.ref a] H Q := ⟨a, xs, rfl, .inl ⟨h, q⟩⟩
def rMin2 : List V → Hp → VK → Prop := fun xs H Q => ∃ i j, xs = [.int i, .int j] ∧ Q (.int (if j < i then j else i)) H
theorem cMin2 {X : Cx} (hc : X.calm = true) : CallR X (.builtin "min") rMin2 := call_min2 hc
theorem rd_min2 {i j : Int} (q : Q (.int (if j < i then j else i)) H) : rMin2 [.int i, .int j] H Q := ⟨i, j, rfl, q⟩
def rMax2 : List V → Hp → VK → Prop := fun xs H Q => ∃ i j, xs = [.int i, .int j] ∧ Q (.int (if j > i then j else i)) H
theorem rd_max2 {i j : Int} (q : Q (.int (if j > i then j else i)) H) : rMax2 [.int i, .int j] H Q := ⟨i, j, rfl, q⟩
def rInSign : R2 := fun x y H Q => ∃ (c : Nat) (z : Str), x = .str ⟨#[c]⟩ ∧ y = .str z ∧ Q (.bl (decide (c ∈ z.cps.toList))) H
theorem oInSign {X : Cx} : OpR X (compareOp .In) rInSign := op_in_sign
theorem rd_in_sign {c : Nat} {z : Str} (q : Q (.bl (decide (c ∈ z.cps.toList))) H) : rInSign (.str ⟨#[c]⟩) (.str z) H Q := ⟨c, z, rfl, rfl, q⟩
def rIsN : R2 := fun x y H Q => y = .non ∧ Q (.bl (decide (x = .non))) H
def rNotN : R2 := fun x y H Q => y = .non ∧ Q (.bl (!decide (x = .non))) H
theorem oIsN {X : Cx} : OpR X (compareOp .Is) rIsN := op_isN
theorem oNotN {X : Cx} : OpR X (compareOp .IsNot) rNotN := op_notN
theorem rd_isN {v : V} (q : Q (.bl (decide (v = .non))) H) : rIsN v .non H Q := ⟨rfl, q⟩
theorem rd_notN {v : V} (q : Q (.bl (!decide (v = .non))) H) : rNotN v .non H Q := ⟨rfl, q⟩
theorem one_sign (h : x.length = 1) : ∃ c, x = ⟨#[c]⟩ := by
  have e : (tl x).length = 1 := by rw [← len_tl]; exact h
  obtain ⟨c, hc⟩ := List.length_eq_one_iff.mp e
  exact ⟨c, ext_tl (by rw [hc, tl_mk])⟩
theorem isLet_len (h : ¬ x.length = 1) : isLet (.str x) = false := by
  unfold isLet
  simp only
  split
  · rename_i c e
    exact absurd (by rw [len_tl, e]; rfl) h
  · rfl
theorem low_list : (("abcdefghijklmnopqrstuvwxyz" : Str)).cps.toList = [97, 98, 99, 100, 101, 102, 103, 104, 105, 106, 107, 108, 109, 110, 111, 112, 113, 114, 115, 116, 117, 118, 119, 120, 121, 122] := by decide +kernel
theorem low_mem (c : Nat) : decide (c ∈ (("abcdefghijklmnopqrstuvwxyz" : Str)).cps.toList) = decide (97 ≤ c ∧ c ≤ 122) := by
  rw [low_list]
  apply decide_eq_decide.mpr
  simp only [List.mem_cons, List.not_mem_nil, or_false]
  omega
theorem isLet_one (c : Nat) : isLet (.str ⟨#[c]⟩) = decide (c ∈ (("abcdefghijklmnopqrstuvwxyz" : Str)).cps.toList) := by rw [low_mem]; rfl
theorem isWd_len (h : ¬ (1 ≤ (tl x).length ∧ (tl x).length ≤ 20)) : isWd (.str x) = false := by
  unfold isWd
  exact decide_eq_false fun z => h ⟨z.1, z.2.1⟩
end
section
variable {a b c d e : Str} {va vb vc vd ve : V}
theorem fl1 : (putF a va []).length < 1000 := Nat.lt_of_le_of_lt (putF_len (k := 0) (Nat.le_refl 0)) (by decide)
theorem fl2 : (putF b vb (putF a va [])).length < 1000 := Nat.lt_of_le_of_lt (putF_len (k := 1) (putF_len (k := 0) (Nat.le_refl 0))) (by decide)
theorem fl3 : (putF c vc (putF b vb (putF a va []))).length < 1000 := Nat.lt_of_le_of_lt (putF_len (k := 2) (putF_len (k := 1) (putF_len (k := 0) (Nat.le_refl 0)))) (by decide)
theorem fl4 : (putF d vd (putF c vc (putF b vb (putF a va [])))).length < 1000 := Nat.lt_of_le_of_lt (putF_len (k := 3) (putF_len (k := 2) (putF_len (k := 1) (putF_len (k := 0) (Nat.le_refl 0))))) (by decide)
theorem fl5 : (putF e ve (putF d vd (putF c vc (putF b vb (putF a va []))))).length < 1000 := Nat.lt_of_le_of_lt (putF_len (k := 4) (putF_len (k := 3) (putF_len (k := 2) (putF_len (k := 1) (putF_len (k := 0) (Nat.le_refl 0)))))) (by decide)
end
end L2.Px
set_option Elab.async false
set_option linter.all false
set_option maxRecDepth 100000
set_option maxHeartbeats 1000000
namespace L2.Px
open PySem PySem.Spec PyProof.Rows StX TL
/-- what tLc asks behind the walked thing J -/
def LcW (J : It) (g : TG) (tt : TT) (te : TE) (vs : List Nat) (σ : St) (H1 : Hp) (D : Addr) (Qd : Hp → Prop) : Prop := ∃ W : Nat → Nat → Hp → Prop, (∃ m, W 0 m (upd H1 D (.lst []))) ∧ ∀ i m H, W i m H →
  (J.stop i H ∧ Qd H) ∨ (J.go i H ∧ ∃ Nx : Hp → Prop, (∀ H', Nx H' → ∃ m', m' < m ∧ W (i + 1) m' H') ∧ ∀ x H', J.yld i H x H' → g x (wipe σ vs) H' fun σ2 H2 => wipe σ2 vs = wipe σ vs ∧ tt σ2 H2 fun b H3 =>
    if b = true then te σ2 H3 fun y H4 => ∃ acc, H4 D = some (.lst acc) ∧ acc.length < sizeLine ∧ Nx (upd H4 D (.lst (acc ++ [y]))) else Nx H3)
/-- a walk of n turns whose i-th item is it i, the heap as it is -/
structure Plain (J : It) (n : Nat) (it : Nat → V) (H1 : Hp) : Prop where
  stop : ∀ H, Same H1 H → J.stop n H
  go : ∀ i H, Same H1 H → i < n → J.go i H
  yld : ∀ i H x H', Same H1 H → i < n → J.yld i H x H' → H' = H ∧ x = it i
section
variable {K : PySem.W.Frag} {a : Addr} {xs : List V} {H1 : Hp} {n : Nat} {lo : Int} {x : Str}
theorem plain_list (h : SqL K H1 a xs) : Plain (Itl K a) xs.length (fun i => (xs[i]?).getD .non) H1 where
  stop := fun H s => ⟨xs, s.seq h, Nat.le_refl _⟩
  go := fun i H s hi => ⟨xs, xs[i], s.seq h, by simp [hi]⟩
  yld := fun i H x H' s hi y => ⟨y.1, by rw [y.2 xs (s.seq h)]; rfl⟩
theorem plain_str : Plain (Its x) (tl x).length (fun i => .str ⟨#[(tl x)[i]?.getD 0]⟩) H1 where
  stop := fun H s => by show x.cps.size ≤ _; rw [← len_tl]; exact Nat.le_refl _
  go := fun i H s hi => by show i < x.cps.size; rw [← len_tl] at hi; exact hi
  yld := fun i H y H' s hi h => by
    obtain ⟨e, c, hc, ev⟩ := h
    have e2 : (tl x)[i]? = some c := by show x.cps.toList[i]? = some c; rw [Array.getElem?_toList]; exact hc
    exact ⟨e, by rw [ev, e2]; rfl⟩
theorem plain_rng : Plain (Itr lo n) n (fun i => .int (lo + i)) H1 where
  stop := fun H s => Nat.le_refl _
  go := fun i H s hi => hi
  yld := fun i H x H' s hi y => ⟨y.1, y.2⟩
end
section
variable {J : It} {n : Nat} {it : Nat → V} {H1 : Hp} {tt : TT} {te : TE} {vs : List Nat} {σ : St} {D : Addr} {Qd : Hp → Prop} {j : Nat}
/-- [f x for x in .. if p x], related answers -/
theorem lc_rel (P : Plain J n it H1) (hD : H1 D = none) (hn : n ≤ sizeLine) (hj : ∀ v, wipe ((wipe σ vs).set j (some v)) vs = wipe σ vs) (Rl : Nat → V → Hp → Prop) (mono : ∀ i y H H' l, i < n → H D = some (.lst l) → But D H H' → Rl i y H → Rl i y H')
    (hs : ∀ i H (Q : VK), i < n → Same H1 H → (∀ y H', Same H H' → Rl i y H' → Q y H') → te ((wipe σ vs).set j (some (it i))) H Q)
    (hd : ∀ H ys, Same H1 H → H D = some (.lst ys) → ys.length = n → (∀ i, i < n → ∃ y, ys[i]? = some y ∧ Rl i y H) → Qd H) : LcW J (gName j) tYes te vs σ H1 D Qd := by
  refine ⟨fun i m H => m = n - i ∧ i ≤ n ∧ Same H1 H ∧ ∃ ys, H D = some (.lst ys) ∧ ys.length = i ∧ ∀ k, k < i → ∃ y, ys[k]? = some y ∧ Rl k y H, ⟨_, rfl, Nat.zero_le _, Same.new (Same.refl _) hD, [], upd_same, rfl, fun k hk => absurd hk (Nat.not_lt_zero _)⟩, ?_⟩
  rintro i m H ⟨rfl, hi, S, ys, eD, hl, hr⟩
  by_cases hlt : i < n
  · refine .inr ⟨P.go i H S hlt, fun H' => i + 1 ≤ n ∧ Same H1 H' ∧ ∃ ys, H' D = some (.lst ys) ∧ ys.length = i + 1 ∧ ∀ k, k < i + 1 → ∃ y, ys[k]? = some y ∧ Rl k y H', fun H' z => ⟨n - (i + 1), by omega, rfl, z⟩, fun x H' y => ?_⟩
    obtain ⟨e1, e2⟩ := P.yld i H x H' S hlt y
    subst e1 e2
    refine ⟨hj _, ?_⟩
    refine rd_yes (iteT ?_)
    refine hs i H' _ hlt S fun y2 H2 S2 r => ⟨ys, S2 _ _ eD, by omega, hlt, Same.mut (S.trans S2) hD, ys ++ [y2], upd_same, by simp [hl], fun k hk => ?_⟩
    by_cases hki : k < i
    · obtain ⟨y', h1, h2⟩ := hr k hki
      exact ⟨y', by rw [List.getElem?_append_left (by omega)]; exact h1, mono _ _ _ _ _ (by omega) eD (But.at (But.same S2)) h2⟩
    · have ek : k = i := by omega
      subst ek
      exact ⟨y2, by rw [List.getElem?_append_right (by omega), hl]; simp, mono _ _ _ _ _ (by omega) (S2 _ _ eD) (But.at But.refl) r⟩
  · have e : i = n := by omega
    subst e
    exact .inl ⟨P.stop H S, hd H ys S eD hl hr⟩
/-- the same with plain answers -/
theorem lc_fun (P : Plain J n it H1) (hD : H1 D = none) (hn : n ≤ sizeLine) (hj : ∀ v, wipe ((wipe σ vs).set j (some v)) vs = wipe σ vs) (f : Nat → V)
    (hs : ∀ i H (Q : VK), i < n → Same H1 H → (∀ H', Same H H' → Q (f i) H') → te ((wipe σ vs).set j (some (it i))) H Q)
    (hd : ∀ H, Same H1 H → H D = some (.lst ((List.range n).map f)) → Qd H) : LcW J (gName j) tYes te vs σ H1 D Qd := by
  refine ⟨fun i m H => m = n - i ∧ i ≤ n ∧ Same H1 H ∧ H D = some (.lst ((List.range i).map f)), ⟨_, rfl, Nat.zero_le _, Same.new (Same.refl _) hD, upd_same⟩, ?_⟩
  rintro i m H ⟨rfl, hi, S, eD⟩
  by_cases hlt : i < n
  · refine .inr ⟨P.go i H S hlt, fun H' => i + 1 ≤ n ∧ Same H1 H' ∧ H' D = some (.lst ((List.range (i + 1)).map f)), fun H' z => ⟨n - (i + 1), by omega, rfl, z⟩, fun x H' y => ?_⟩
    obtain ⟨e1, e2⟩ := P.yld i H x H' S hlt y
    subst e1 e2
    refine ⟨hj _, ?_⟩
    refine rd_yes (iteT ?_)
    refine hs i H' _ hlt S fun H2 S2 => ⟨_, S2 _ _ eD, by rw [List.length_map, List.length_range]; omega, hlt, Same.mut (S.trans S2) hD, ?_⟩
    rw [upd_same, List.range_succ, List.map_append]
    rfl
  · have e : i = n := by omega
    subst e
    exact .inl ⟨P.stop H S, hd H S eD⟩
/-- with a test -/
theorem lc_filt (P : Plain J n it H1) (hD : H1 D = none) (hn : n ≤ sizeLine) (hj : ∀ v, wipe ((wipe σ vs).set j (some v)) vs = wipe σ vs) (f : Nat → V) (p : Nat → Bool)
    (ht : ∀ i H (R : Bool → Hp → Prop), i < n → Same H1 H → (∀ H', Same H H' → R (p i) H') → tt ((wipe σ vs).set j (some (it i))) H R)
    (hs : ∀ i H (Q : VK), i < n → p i = true → Same H1 H → (∀ H', Same H H' → Q (f i) H') → te ((wipe σ vs).set j (some (it i))) H Q)
    (hd : ∀ H, Same H1 H → H D = some (.lst (((List.range n).filter p).map f)) → Qd H) : LcW J (gName j) tt te vs σ H1 D Qd := by
  refine ⟨fun i m H => m = n - i ∧ i ≤ n ∧ Same H1 H ∧ H D = some (.lst (((List.range i).filter p).map f)), ⟨_, rfl, Nat.zero_le _, Same.new (Same.refl _) hD, upd_same⟩, ?_⟩
  rintro i m H ⟨rfl, hi, S, eD⟩
  by_cases hlt : i < n
  · refine .inr ⟨P.go i H S hlt, fun H' => i + 1 ≤ n ∧ Same H1 H' ∧ H' D = some (.lst (((List.range (i + 1)).filter p).map f)), fun H' z => ⟨n - (i + 1), by omega, rfl, z⟩, fun x H' y => ?_⟩
    obtain ⟨e1, e2⟩ := P.yld i H x H' S hlt y
    subst e1 e2
    refine ⟨hj _, ht i H' _ hlt S fun H2 S2 => ?_⟩
    cases hp : p i with
    | true =>
      rw [if_pos rfl]
      refine hs i H2 _ hlt hp (S.trans S2) fun H3 S3 => ⟨_, S3 _ _ (S2 _ _ eD), ?_, hlt, Same.mut ((S.trans S2).trans S3) hD, ?_⟩
      · rw [List.length_map]
        have := List.length_filter_le p (List.range i)
        rw [List.length_range] at this
        omega
      · rw [upd_same, List.range_succ, List.filter_append, List.map_append]
        simp [hp]
    | false =>
      rw [if_neg Bool.false_ne_true]
      refine ⟨hlt, S.trans S2, ?_⟩
      rw [S2 _ _ eD, List.range_succ, List.filter_append, List.map_append]
      simp [hp]
  · have e : i = n := by omega
    subst e
    exact .inl ⟨P.stop H S, hd H S eD⟩
end
def ForW (J : It) (g : TG) (tb : TS) (D : Ends) (σ : St) (H1 : Hp) : Prop := ∃ W : Nat → Nat → St → Hp → Prop, (∃ m, W 0 m σ H1) ∧ ∀ i m σ H, W i m σ H →
  (J.stop i H ∧ D.nx σ H) ∨ (J.go i H ∧ ∃ N : St → Hp → Prop, (∀ σ' H', N σ' H' → ∃ m', m' < m ∧ W (i + 1) m' σ' H') ∧ ∀ x H', J.yld i H x H' → g x σ H' fun σ2 H2 => tb { D with nx := N, ct := N, bk := D.nx } σ2 H2)
section
variable {K : PySem.W.Frag} {H : Hp} {Q : VK} {x : Str} {a : Addr} {xs : List V}
theorem rd_all {bs : List Bool} (h : SqL K H a (bs.map V.bl)) (q : Q (.bl (bs.all id)) H) : rAll K [.ref a] H Q := ⟨a, bs, rfl, h, q⟩
theorem isWd_all (h1 : 1 ≤ (tl x).length) (h2 : (tl x).length ≤ 20) : ((List.range (tl x).length).map fun i => isLet (.str ⟨#[(tl x)[i]?.getD 0]⟩)).all id = isWd (.str x) := by
  unfold isWd
  rw [List.all_map]
  have key : (List.range (tl x).length).all (id ∘ fun i => isLet (.str ⟨#[(tl x)[i]?.getD 0]⟩)) = decide (∀ c ∈ tl x, 97 ≤ c ∧ c ≤ 122) := by
    rw [Bool.eq_iff_iff, List.all_eq_true, decide_eq_true_iff]
    constructor
    · intro h c hc
      obtain ⟨i, hi, rfl⟩ := List.getElem_of_mem hc
      have := h i (List.mem_range.mpr hi)
      simp only [Function.comp, id, isLet, tl] at this
      rw [List.getElem?_eq_getElem hi] at this
      simpa [tl] using this
    · intro h i hi
      have hi := List.mem_range.mp hi
      have := h _ (List.getElem_mem hi)
      simp only [Function.comp, id, isLet]
      rw [List.getElem?_eq_getElem hi]
      simpa [tl] using this
  rw [key]
  apply decide_eq_decide.mpr
  constructor
  · intro h; exact ⟨h1, h2, h⟩
  · intro h; exact h.2.2
theorem sign_small (c : Nat) : (⟨#[c]⟩ : Str).length ≤ sizeLine := Nat.le_trans (show 1 ≤ 20 by decide) (by rw [sizeLine_eq]; decide)
theorem rd_iStr {te : TE} {σ : St} {Rr : It → Hp → Prop} (h : te σ H fun v H1 => ∃ x, v = .str x ∧ Rr (Its x) H1) : iStr te σ H Rr := h
end
end L2.Px
namespace L2.Px
open PySem PySem.Spec PyProof.Rows StX TL
section
variable {K : PySem.W.Frag} {H : Hp} {Q : VK} {x y : Str} {a l : Addr} {xs : List V} {v : V} {i : Int} {CP CT : Addr} {ss : List Stp} {s : Stp} {n j : Nat}
theorem two_line : 2 ≤ sizeLine := by rw [sizeLine_eq]; decide
theorem emp_mk : ("" : Str) = mkS [] := by decide +kernel
theorem rd_append (h : H l = some (.lst xs)) (hz : xs.length < sizeLine) (q : Q .non (upd H l (.lst (xs ++ [v])))) : rAppend (.ref l) [v] H Q := ⟨l, xs, v, rfl, rfl, h, hz, q⟩
theorem rd_U {g : Int → V} (q : Q (g i) H) : rU g (.int i) H Q := ⟨i, rfl, q⟩
theorem rd_tyL (h : SqL K H a xs) (q : Prop) (hq : q) : tyV K "list" (.ref a) H ∧ q := ⟨.inl ⟨rfl, _, h⟩, hq⟩
theorem line30 : (30 : Nat) < sizeLine := by rw [sizeLine_eq]; decide
theorem tyL_small {ss : List Stp} (ok : okFrom n ss) : (tyL ss).length ≤ 20 * ss.length := by
  induction ss generalizing n with
  | nil => simp [tyL]
  | cons s r ih =>
    obtain ⟨h1, _, h3⟩ := ok
    have := ih h3
    simp only [tyL, List.length_append, List.length_cons]
    cases s with
    | wr w => have := h1.2.1; rw [len_tl] at this; simp only [ty1]; omega
    | pa f l t => simp only [ty1, List.length_nil]; omega
theorem tyL_line (ok : okFrom n ss) (few : ss.length ≤ 30) : (tyL ss).length ≤ sizeLine := Nat.le_trans (tyL_small ok) (Nat.le_trans (show 20 * ss.length ≤ 600 by omega) (by rw [sizeLine_eq]; decide))
theorem tyL_take_le (j : Nat) : (tyL (ss.take j)).length ≤ (tyL ss).length := by
  conv => rhs; rw [← List.take_append_drop j ss, tyL_append, List.length_append]
  omega
end
end L2.Px
namespace L2.Px
open PySem PySem.Spec PyProof.Rows StX TL
section
variable {K : PySem.W.Frag} {H : Hp} {Q : VK} {E : XK} {CP CT : Addr} {a b : Addr} {xs : List V} {s n f l : Int} {t : Bool} {rs : List V} {ss : List Stp}
/-- a part is made -/
theorem rd_mkPart (q : ∀ x dx Hc, H x = none → Same H Hc → Hc x = some (.ins CP dx (partF s n t f l)) → Q (.ref x) Hc) :
    rMk CP (sp_Part_init CP) E [.int s, .int n, .bl t, .int f, .int l] H Q := by
  intro x dx nx nd ne
  exact ⟨x, dx, s, n, t, f, l, rfl, upd_same, rfl, q x dx _ nx (Same.mut (Same.mut (Same.mut (Same.refl _) nd) nx) nx) upd_same⟩
/-- a text is made -/
theorem rd_mkText (hst : StepsAt K H rs ss) (ok : okFrom 0 ss) (few : ss.length ≤ 30)
    (q : ∀ x Hc t, H x = none → Same H Hc → TextAt K CT CP Hc x t → t.ss = ss → Q (.ref x) Hc) :
    rMk CT (spStar 1 (sp_Text_init K CT CP)) E rs H Q := by
  intro x dx nx nd ne
  have S1 : Same H (upd (upd H dx (.own x)) x (.ins CT dx [])) := Same.mut (Same.mut (Same.refl _) nd) nx
  refine ⟨[.ref x], rs, rfl, rfl, by rw [hst.1]; exact Nat.le_trans few (Nat.le_of_lt line30), fun p np => ?_⟩
  have S2 := Same.new (o := .tup rs) S1 np
  exact ⟨x, dx, p, rs, ss, rfl, lk_new np upd_same, SqT.of upd_same, hst.mono S2, ok, few, fun H' t k T e1 e2 => ⟨rfl, q x H' t nx (fun b o e => k b o (ne_of_none e nx) (S2 _ _ e)) T e1⟩⟩
end
end L2.Px
set_option Elab.async false
set_option linter.all false
set_option maxRecDepth 100000
set_option maxHeartbeats 1000000
namespace L2.Px
open PySem PySem.Spec PyProof.Rows StX TL
section
variable {K : PySem.W.Frag} {σ : St} {H : Hp} {Q : VK} {i j : Int} {x y : Str} {a b : Addr} {xs ys : List V} {te ta tb : TE} {tt : TT} {st : TS} {D : Ends} {t1 t2 : TO} {c : Nat} {v : V}
theorem rd_while (W : Nat → St → Hp → Prop) (h0 : ∃ m, W m σ H) (hs : ∀ m σ H, W m σ H → tt σ H fun b H1 => if b = true then ∃ N : St → Hp → Prop, (∀ σ' H', N σ' H' → ∃ m', m' < m ∧ W m' σ' H') ∧ st { D with nx := N, ct := N, bk := D.nx } σ H1 else D.nx σ H1) : tWhile tt st D σ H := ⟨W, h0, hs⟩
theorem rd_ixS (hz : x.length ≤ sizeLine) (e : atI x.cps.toList i = some c) (h : Q (.str ⟨#[c]⟩) H) : rIx K (.str x) (.int i) H Q := .inr (.inr ⟨x, i, c, rfl, rfl, hz, e, h⟩)
theorem rd_ixSn {j : Nat} (hz : x.length ≤ sizeLine) (e : (tl x)[j]? = some c) (h : Q (.str ⟨#[c]⟩) H) : rIx K (.str x) (.int j) H Q := rd_ixS hz (by rw [atI_nat]; exact e) h
theorem rd_ixLn {j : Nat} (hx : SqL K H a xs) (e : xs[j]? = some v) (h : Q v H) : rIx K (.ref a) (.int j) H Q := rd_ixI h hx (by rw [atI_nat]; exact e)
theorem rd_ixTn {j : Nat} (hx : SqT K H a xs) (e : xs[j]? = some v) (h : Q v H) : rIx K (.ref a) (.int j) H Q := rd_ixT h hx (by rw [atI_nat]; exact e)
theorem rd_sl {r : V → Option Int → Option Int → Hp → VK → Prop} (h : te σ H fun x H1 => t1 σ H1 fun l H2 => t2 σ H2 fun u H3 => r x l u H3 Q) : tSl r te t1 t2 σ H Q := h
theorem rd_noPart {R : Option Int → Hp → Prop} (h : R none H) : tNoPart σ H R := h
theorem rd_part {R : Option Int → Hp → Prop} (h : te σ H fun x H1 => ∃ i, x = .int i ∧ R (some i) H1) : tPart te σ H R := h
theorem rd_pint {R : Int → Prop} (h : R i) : ∃ i', V.int i = .int i' ∧ R i' := ⟨i, rfl, h⟩
theorem rd_slL {lo hi : Option Int} (hx : SqL K H a xs) (h : ∀ p, H p = none → Q (.ref p) (upd H p (.lst (cutV xs lo hi)))) : rSlL K (.ref a) lo hi H Q := ⟨a, xs, rfl, hx, h⟩
end
end L2.Px
set_option Elab.async false
set_option linter.all false
set_option maxRecDepth 100000
set_option maxHeartbeats 1000000
namespace L2.Px
open PySem PySem.Spec PyProof.Rows StX TL
theorem twenty_line : 64 ≤ sizeLine := by rw [sizeLine_eq]; decide
theorem four_line : 4 ≤ sizeLine := by rw [sizeLine_eq]; decide
theorem StepsAt.append {K : PySem.W.Frag} {H : Hp} {ms ns : List V} {ss tt : List Stp} (h : StepsAt K H ms ss) (g : StepsAt K H ns tt) : StepsAt K H (ms ++ ns) (ss ++ tt) := by
  refine ⟨by rw [List.length_append, List.length_append, h.1, g.1], fun j s hj => ?_⟩
  by_cases hl : j < ss.length
  · rw [List.getElem?_append_left hl] at hj
    obtain ⟨v, e1, e2⟩ := h.2 j s hj
    exact ⟨v, by rw [List.getElem?_append_left (by rw [h.1]; exact hl)]; exact e1, e2⟩
  · rw [List.getElem?_append_right (by omega)] at hj
    obtain ⟨v, e1, e2⟩ := g.2 _ s hj
    exact ⟨v, by rw [List.getElem?_append_right (by rw [h.1]; omega), h.1]; exact e1, e2⟩
theorem StepsAt.one {K : PySem.W.Frag} {H : Hp} {v : V} {s : Stp} (h : StepAt K H v s) : StepsAt K H [v] [s] := by
  refine ⟨rfl, fun j s' hj => ?_⟩
  cases j with
  | zero => cases hj; exact ⟨v, rfl, h⟩
  | succ j => simp at hj
theorem StepAt.one' {K : PySem.W.Frag} {H : Hp} {v : V} {s : Stp} (h : StepAt K H v s) : StepsAt K H [v] [s] := .one h
def rt1 (k c n : Nat) : Stp → Stp
  | .wr w => if n ≤ k ∧ k < n + w.length then .wr (mkS ((tl w).set (k - n) c)) else .wr w
  | .pa f l t => .pa f l t
theorem rt_cons (k c n : Nat) (s : Stp) (r : List Stp) : rt k c n (s :: r) = rt1 k c n s :: rt k c (n + (ty1 s).length) r := by
  cases s with
  | wr w => simp only [rt, rt1, ty1, ← len_tl]
  | pa f l t => simp only [rt, rt1, ty1, List.length_nil, Nat.add_zero]
theorem rt_append (k c : Nat) : ∀ (n : Nat) (a b : List Stp), rt k c n (a ++ b) = rt k c n a ++ rt k c (n + (tyL a).length) b
  | n, [], b => by simp [rt, tyL]
  | n, s :: a, b => by
    rw [List.cons_append, rt_cons, rt_cons, rt_append k c _ a b, List.cons_append]
    simp only [tyL, List.length_append]
    rw [Nat.add_assoc]
theorem rt_take {k c : Nat} {ss : List Stp} {i : Nat} {s : Stp} (h : ss[i]? = some s) : rt k c 0 (ss.take (i + 1)) = rt k c 0 (ss.take i) ++ [rt1 k c (tyL (ss.take i)).length s] := by
  rw [take_snoc h, rt_append, Nat.zero_add, rt_cons]; rfl
theorem rt_length (k c : Nat) : ∀ (n : Nat) (ss : List Stp), (rt k c n ss).length = ss.length
  | n, [] => rfl
  | n, s :: r => by rw [rt_cons, List.length_cons, rt_length k c _ r, List.length_cons]
theorem len1_mv (n : Nat) (s : Stp) : len1 (mv n s) = len1 s := by
  cases s with
  | wr w => rfl
  | pa f l t => simp only [mv, len1]; rw [show l + n - (f + n) = l - f by omega]
theorem ty1_mv (n : Nat) (s : Stp) : ty1 (mv n s) = ty1 s := by cases s <;> rfl
theorem ok_mv {n m : Nat} {s : Stp} (h : okStep m s) : okStep (m + n) (mv n s) := by
  cases s with
  | wr w => exact h
  | pa f l t => obtain ⟨a, b, c, d⟩ := h; exact ⟨by omega, by omega, c, d⟩
theorem tyL_mv (n : Nat) : ∀ ss : List Stp, tyL (ss.map (mv n)) = tyL ss
  | [] => rfl
  | s :: r => by rw [List.map_cons]; simp only [tyL]; rw [ty1_mv, tyL_mv n r]
theorem ok_mvs (n : Nat) : ∀ (m : Nat) (ss : List Stp), okFrom m ss → m + n + sz ss ≤ 1000000000000000000 → okFrom (m + n) (ss.map (mv n))
  | m, [], _, _ => trivial
  | m, s :: r, ⟨h1, h2, h3⟩, hz => by
    simp only [sz] at hz
    refine ⟨ok_mv h1, by rw [len1_mv]; omega, ?_⟩
    rw [len1_mv, show m + n + len1 s = m + len1 s + n by omega]
    exact ok_mvs n _ r h3 (by omega)
theorem tyL_join (a b : List Stp) : tyL (joinS a b) = tyL a ++ tyL b := by unfold joinS; rw [tyL_append, tyL_mv]
theorem ok_join {a b : List Stp} (ha : okFrom 0 a) (hb : okFrom 0 b) (hz : sz a + sz b ≤ 1000000000000000000) : okFrom 0 (joinS a b) := by
  unfold joinS
  rw [okFrom_append]
  refine ⟨ha, ?_⟩
  exact ok_mvs (sz a) 0 b hb (by omega)
theorem join_length (a b : List Stp) : (joinS a b).length = a.length + b.length := by unfold joinS; rw [List.length_append, List.length_map]
theorem sz_mul {ss : List Stp} {n : Nat} (hn : 1 ≤ n) : sz (mulS ss n) = sz ss * n := by
  unfold mulS
  split
  · rename_i h
    rcases h with h | h
    · rw [h, Nat.mul_one]
    · rw [h, Nat.zero_mul]
  · rename_i h
    have h1 : sz ss ≠ 0 := fun z => h (.inr z)
    rw [sz_append]
    simp only [sz, len1, Nat.add_zero]
    rw [show sz ss - 1 - 0 + 1 = sz ss by omega]
    obtain ⟨m, rfl⟩ : ∃ m, n = m + 1 := ⟨n - 1, by omega⟩
    rw [Nat.add_sub_cancel, Nat.mul_succ]; omega
theorem mul_length (ss : List Stp) (n : Nat) : (mulS ss n).length ≤ ss.length + 1 := by
  unfold mulS
  split
  · omega
  · rw [List.length_append]; simp
theorem ok_mul {ss : List Stp} {n : Nat} (ok : okFrom 0 ss) (hn : 1 ≤ n) (hn2 : n ≤ 1000000000) (hz : sz ss * n ≤ 1000000000000000000) : okFrom 0 (mulS ss n) := by
  have e := sz_mul (ss := ss) hn
  unfold mulS at e ⊢
  split
  · exact ok
  · rename_i h
    rw [if_neg h, sz_append] at e
    have h1 : sz ss ≠ 0 := fun z => h (.inr z)
    have h2 : n ≠ 1 := fun z => h (.inl z)
    rw [okFrom_append]
    refine ⟨ok, ⟨by omega, by omega, by omega, by omega⟩, ?_, trivial⟩
    simp only [sz, Nat.add_zero] at e
    omega
end L2.Px
set_option Elab.async false
set_option linter.all false
set_option maxRecDepth 100000
set_option maxHeartbeats 1000000
namespace L2.Px
open PySem PySem.Spec PyProof.Rows StX TL
section
variable {X : Cx} {K : PySem.W.Frag} {e o tg : Expr} {es : List Expr} {ta te to : TE} {t : TA} {f name : Str} {pos apos cpos p : Pos} {T id : String} {r : V → List V → Hp → VK → Prop}
theorem pe_fldK (hk : X.K = K) (he : PE X e ta) (hb : attributeBase e f X.env (eval e X.env) = eval e X.env) : PE X (.Attribute e f pos) (tFld K ta f) := hk ▸ pe_fld he hb
theorem ixK (hk : X.K = K) : IxR X (rIx K) := hk ▸ ix_seq
theorem slK (hk : X.K = K) : SlR X (rSlL K) := hk ▸ sl_list
theorem addK (hk : X.K = K) : OpR X (binaryOp .Add) (rAddA K) := hk ▸ oAdd
theorem eqK (hk : X.K = K) (hu : X.A.units + 64 < cLine) : OpR X (compareOp .Eq) (rEqA K) := hk ▸ oEq hu
theorem neK (hk : X.K = K) (hu : X.A.units + 64 < cLine) : OpR X (compareOp .NotEq) (rNeA K) := hk ▸ oNe hu
theorem inK (hk : X.K = K) : OpR X (compareOp .In) (rIn K false) := hk ▸ op_in_seq
theorem lenK (hk : X.K = K) : CallR X (.builtin "len") (rLenA K) := hk ▸ cLen
theorem listK (hk : X.K = K) : CallR X (.type "list") (rListA K) := hk ▸ cList
theorem tupK (hk : X.K = K) : CallR X (.type "tuple") (rTupA K) := hk ▸ cTup
theorem isiK (hk : X.K = K) : CallR X (.builtin "isinstance") (rIsi K) := hk ▸ call_isi
theorem allK (hk : X.K = K) (hc : X.calm = true) : CallR X (.builtin "all") (rAll K) := hk ▸ cr_all hc
theorem mt_indexK (hk : X.K = K) : MtR X "list.index" (rIndex K) := hk ▸ mt_index
theorem pi_listK {tl : TE} (hk : X.K = K) (hl : PE X o tl) : PI X tg o (iList K tl) := hk ▸ pi_list hl
theorem pi_tupK {tl : TE} (hk : X.K = K) (hl : PE X o tl) : PI X tg o (iTup K tl) := hk ▸ pi_tup hl
theorem pa_starK (hk : X.K = K) (he : PE X e te) (hr : PA X es t) (hs : starEach (.Starred e p :: es) X.env = (true, eval e X.env) :: starEach es X.env := by rfl) : PA X (.Starred e p :: es) (tStar K te t) := hk ▸ pa_star he hr hs
theorem pg_tupK {k : Nat} {t : TGs} {n : Nat} (hk : X.K = K) (hc : X.calm = true) (h : PGs X es t)
    (hn : (assignEach es X.env).length = n := by rfl) (hst : (assignEach es X.env).findIdx? (·.1) = none := by rfl) : PG X (.Tuple es k pos) (gTup K n t) := hk ▸ pg_tup hc h hn hst
theorem pe_bmK (hk : X.K = K) (pa : PlainAttrs T) (slot : Slot T name id) (hty : typeOf (.builtin id) = pure (.type "method_descriptor")) (hm : MtR X id r) (ho : PE X o to) (ha : PA X (e :: es) t)
    (hbase : attributeBase o name X.env (eval o X.env) = eval o X.env := by rfl)
    (hfew : ((backTo cpos (starEach (e :: es) X.env)).all (fun x => !x.1) && (backToKw cpos (keywordEach [] X.env)).all (fun x => x.1.isSome)
      && decide ((e :: es).length + ([] : List Keyword).length + (if ([] : List Keyword).isEmpty then 0 else 1) < 30)) = true := by rfl)
    (hline : (apos.endLine == cpos.line) = true := by rfl) (hs : starEach (e :: es) X.env = (false, eval e X.env) :: starEach es X.env := by rfl) (hplain : (backTo cpos (starEach es X.env)).any (·.1) = false := by rfl) :
    PE X (.Call (.Attribute o name apos) (e :: es) [] cpos) (tBM K T r to t) := hk ▸ pe_bm pa slot hty hm ho ha hbase hfew hline hs hplain
end
/-- the loop of Text.retyped -/
def RtPv (K : PySem.W.Frag) (H : Hp) (a l : Addr) (k c : Nat) (ss : List Stp) (i : Nat) (σ : St) (H' : Hp) : Prop := ∃ ys v5 v6 v7, σ = [some (.ref a), some (.int k), some (.str ⟨#[c]⟩), some (.ref l), some (.int (tyL (ss.take i)).length), v5, v6, v7] ∧ Same H H' ∧ H l = none ∧ H' l = some (.lst ys) ∧ StepsAt K H' ys (rt k c 0 (ss.take i))
theorem RtPv.next {K : PySem.W.Frag} {H Hx : Hp} {a l p : Addr} {k c i : Nat} {ss : List Stp} {s : Stp} {ys : List V} {v6 v7 : Option V} (hs : ss[i]? = some s) (S : Same H Hx) (hl : H l = none) (e : Hx l = some (.lst ys)) (h : StepsAt K Hx ys (rt k c 0 (ss.take i))) (hp : SqT K Hx p (stV (rt1 k c (tyL (ss.take i)).length s))) (few : ss.length ≤ 30)
    {n : Nat} (hn : n = (tyL (ss.take i)).length + (ty1 s).length) {R : Hp → Prop} (q : ∀ H2, RtPv K H a l k c ss (i + 1) [some (.ref a), some (.int k), some (.str ⟨#[c]⟩), some (.ref l), some (.int n), some (.ref p), v6, v7] H2 → R H2) : rAppend (.ref l) [.ref p] Hx fun _ H2 => R H2 := by
  have hi : i < ss.length := (List.getElem?_eq_some_iff.mp hs).1
  refine rd_append e ?_ (q _ ?_)
  · rw [h.1, rt_length, List.length_take]; have := line30; omega
  · have B : But l Hx (upd Hx l (.lst (ys ++ [.ref p]))) := But.at But.refl
    have f := free1_lst e
    refine ⟨ys ++ [.ref p], some (.ref p), v6, v7, ?_, Same.mut S hl, hl, upd_same, ?_⟩
    · rw [tyL_take hs, List.length_append, hn]
    · rw [rt_take hs]
      exact (B.steps f h).append (StepAt.one' ⟨p, rfl, B.tup f hp⟩)
end L2.Px
set_option Elab.async false
set_option linter.all false
set_option maxRecDepth 100000
set_option maxHeartbeats 1000000
namespace L2.Px
open PySem PySem.Spec PyProof.Rows StX TL
/-- the shape of the row -/
def isRow : HO → Prop
  | .lst [.ref _, .int _, .int _, .int _] => True
  | _ => False
/-- all but rows is as it was, and rows keep what they draw from -/
structure Kp (H H' : Hp) : Prop where
  keep : ∀ b o, ¬ isRow o → H b = some o → H' b = some o
  rows : ∀ (b sa : Addr) (i s e : Int), H b = some (.lst [.ref sa, .int i, .int s, .int e]) → ∃ i' s' e' : Int, H' b = some (.lst [.ref sa, .int i', .int s', .int e'])
instance {H H' : Hp} : CoeFun (Kp H H') (fun _ => ∀ b o, ¬ isRow o → H b = some o → H' b = some o) := ⟨Kp.keep⟩
structure RowAt (K : PySem.W.Frag) (H : Hp) (r : Addr) : Prop where
  ex : ∃ (sa : Addr) (sc : List Int) (i : Nat) (s e : Int), H r = some (.lst [.ref sa, .int i, .int s, .int e]) ∧ SqL K H sa (sc.map V.int)
section
variable {K : PySem.W.Frag} {H H' H1 : Hp} {a r p : Addr} {xs ys : List V} {o : HO} {v : V} {s : Stp} {ms ps : List V} {ss : List Stp} {CT CP : Addr} {t : TxI}
theorem Kp.refl : Kp H H := ⟨fun _ _ _ h => h, fun _ _ _ _ _ h => ⟨_, _, _, h⟩⟩
theorem Kp.trans (a : Kp H H1) (b : Kp H1 H') : Kp H H' := ⟨fun c o hc h => b.keep c o hc (a.keep c o hc h), fun c sa i s e h => let ⟨i', s', e', h'⟩ := a.rows c sa i s e h; b.rows c sa i' s' e' h'⟩
theorem Kp.same (e : Same H H') : Kp H H' := ⟨fun b o _ h => e b o h, fun b _ _ _ _ h => ⟨_, _, _, e b _ h⟩⟩
theorem Kp.new (e : Kp H H') (hp : H' p = none) : Kp H (upd H' p o) := e.trans (Kp.same (Same.new (Same.refl _) hp))
/-- the row is written -/
theorem Kp.row (e : Kp H H') {sa : Addr} {i s n i' s' n' : Int} (h : H' r = some (.lst [.ref sa, .int i, .int s, .int n])) : Kp H (upd H' r (.lst [.ref sa, .int i', .int s', .int n'])) := by
  refine e.trans ⟨fun b w hw q => ?_, fun b sb i1 s1 n1 q => ?_⟩
  · rw [upd_ne fun z => by subst z; rw [h] at q; cases q; exact hw trivial]; exact q
  · by_cases hb : b = r
    · subst hb; rw [h] at q; cases q; exact ⟨_, _, _, upd_same⟩
    · exact ⟨_, _, _, by rw [upd_ne hb]; exact q⟩
theorem Kp.mut (e : Kp H H') (h : H p = none) : Kp H (upd H' p o) :=
  ⟨fun b w hw q => by rw [upd_ne (ne_of_none q h)]; exact e.keep b w hw q, fun b sa i s n q => let ⟨i', s', e', h'⟩ := e.rows b sa i s n q; ⟨i', s', e', by rw [upd_ne (ne_of_none q h)]; exact h'⟩⟩
theorem nr_tup : ¬ isRow (.tup xs) := id
theorem nr_ins {C dx : Addr} {fs : List (Str × V)} : ¬ isRow (.ins C dx fs) := id
theorem nr_frz {u : HO} {o' : Obj} : ¬ isRow (.frz o' u) := id
def isRef : V → Bool
  | .ref _ => true
  | _ => false
theorem nr_refs (h : ∀ v ∈ xs, isRef v = true) : ¬ isRow (.lst xs) := by
  intro z
  unfold isRow at z
  split at z
  · rename_i e
    simp only [HO.lst.injEq] at e
    subst e
    have := h _ (List.mem_cons_of_mem _ List.mem_cons_self)
    cases this
  · exact z
theorem nr_vals (h : ∀ v ∈ xs, isRef v = false) : ¬ isRow (.lst xs) := by
  intro z
  unfold isRow at z
  split at z
  · rename_i e
    simp only [HO.lst.injEq] at e
    subst e
    have := h _ List.mem_cons_self
    cases this
  · exact z
theorem nr_ints {l : List Int} : ¬ isRow (.lst (l.map V.int)) := nr_vals fun v hv => by obtain ⟨i, _, rfl⟩ := List.mem_map.mp hv; rfl
theorem Kp.tup (e : Kp H H') (h : SqT K H a xs) : SqT K H' a xs := by
  rcases h with (h | ⟨o, h⟩) | h
  · exact .inl (.inl (e _ _ nr_tup h))
  · exact .inl (.inr ⟨o, e _ _ nr_frz h⟩)
  · exact .inr h
theorem Kp.lst (e : Kp H H') (n : ¬ isRow (.lst xs)) (h : SqL K H a xs) : SqL K H' a xs := by
  rcases h with (h | ⟨o, h⟩) | h
  · exact .inl (.inl (e _ _ n h))
  · exact .inl (.inr ⟨o, e _ _ nr_frz h⟩)
  · exact .inr h
theorem RowAt.mono (h : RowAt K H r) (e : Same H H') : RowAt K H' r := let ⟨sa, sc, i, s, n, a, b⟩ := h.ex; ⟨sa, sc, i, s, n, e _ _ a, e.seq b⟩
theorem StepAt.kp (h : StepAt K H v s) (e : Kp H H') : StepAt K H' v s := let ⟨a, ev, q⟩ := h; ⟨a, ev, e.tup q⟩
theorem StepsAt.kp (h : StepsAt K H ms ss) (e : Kp H H') : StepsAt K H' ms ss := ⟨h.1, fun j s q => let ⟨v, a, b⟩ := h.2 j s q; ⟨v, a, b.kp e⟩⟩
theorem StepsAt.refs (h : StepsAt K H ms ss) : ∀ v ∈ ms, isRef v = true := by
  intro v hv
  obtain ⟨j, hj, rfl⟩ := List.getElem_of_mem hv
  obtain ⟨s, _, a, e, _⟩ := h.at (List.getElem?_eq_getElem hj)
  rw [e]; rfl
theorem PartAt.kp {n y : Nat} (h : PartAt CP H v n y s) (e : Kp H H') : PartAt CP H' v n y s := by
  cases s with
  | wr w => obtain ⟨p, dx, ev, q⟩ := h; exact ⟨p, dx, ev, e _ _ nr_ins q⟩
  | pa f l t => obtain ⟨p, dx, ev, q⟩ := h; exact ⟨p, dx, ev, e _ _ nr_ins q⟩
theorem PartsAt.refs (h : PartsAt CP H ps ss) : ∀ v ∈ ps, isRef v = true := by
  intro v hv
  obtain ⟨j, hj, rfl⟩ := List.getElem_of_mem hv
  have hj' : j < ss.length := by rw [← h.1]; exact hj
  obtain ⟨v, e1, e2⟩ := h.2 j _ (List.getElem?_eq_getElem hj')
  rw [List.getElem?_eq_getElem hj] at e1
  cases e1
  cases hs : ss[j] with
  | wr w => rw [hs] at e2; obtain ⟨p, dx, ev, q⟩ := e2; rw [ev]; rfl
  | pa f l t => rw [hs] at e2; obtain ⟨p, dx, ev, q⟩ := e2; rw [ev]; rfl
theorem PartsAt.kp (h : PartsAt CP H ps ss) (e : Kp H H') : PartsAt CP H' ps ss := ⟨h.1, fun j s q => let ⟨v, a, b⟩ := h.2 j s q; ⟨v, a, b.kp e⟩⟩
theorem TextAt.kp (h : TextAt K CT CP H a t) (e : Kp H H') : TextAt K CT CP H' a t := ⟨e _ _ nr_ins h.ins, e.tup h.made, h.stp.kp e, e _ _ (nr_refs h.prt.refs) h.pls, h.prt.kp e, h.ok, h.few⟩
end
theorem take_fin {many : Nat} (h : 1 ≤ many) (x : Int) {Q : VK} {H : Hp} (k : ∀ n : Nat, n < many → Q (.int n) H) : Q (.int (x % (many : Nat))) H := by
  have h1 : 0 ≤ x % (many : Int) := Int.emod_nonneg x (by omega)
  have h2 : x % (many : Int) < (many : Int) := Int.emod_lt_of_pos x (by omega)
  have := k (x % (many : Int)).toNat (by omega)
  rw [Int.toNat_of_nonneg h1] at this
  exact this
theorem row_put {K : PySem.W.Frag} {H H' : Hp} {r sa : Addr} {sc : List Int} {i j : Nat} {s e s' e' : Int} (S : Kp H H') (h : H' r = some (.lst [.ref sa, .int i, .int s, .int e])) (hs : SqL K H' sa (sc.map V.int)) :
    Kp H (upd H' r (.lst [.ref sa, .int j, .int s', .int e'])) ∧ upd H' r (.lst [.ref sa, .int j, .int s', .int e']) r = some (.lst [.ref sa, .int j, .int s', .int e']) ∧ SqL K (upd H' r (.lst [.ref sa, .int j, .int s', .int e'])) sa (sc.map V.int) :=
  ⟨S.row h, upd_same, (Kp.refl.row h).lst nr_ints hs⟩
section
variable (K : PySem.W.Frag)
def sp_x_law_taken : Sp := fun vs H Q _ => ∃ (r : Addr) (many : Nat), vs = [.ref r, .int many] ∧ RowAt K H r ∧ 1 ≤ many ∧ many < 1073741824 ∧ ∀ (n : Nat) H', n < many → Kp H H' → RowAt K H' r → Q (.int n) H'
def okWord (w : Str) (m : Nat) : Prop := 1 ≤ w.length ∧ w.length ≤ m ∧ ∀ c ∈ tl w, c = 97 ∨ c = 98 ∨ c = 99 ∨ c = 122
def sp_x_law_word : Sp := fun vs H Q _ => ∃ (r : Addr) (most : Nat), vs = [.ref r, .int most] ∧ RowAt K H r ∧ 1 ≤ most ∧ most ≤ 20 ∧ ∀ (w : Str) H', okWord w most → Kp H H' → RowAt K H' r → Q (.str w) H'
/-- typed as a, b, c, z -/
def okLs (ss : List Stp) : Prop := ∀ c ∈ tyL ss, c = 97 ∨ c = 98 ∨ c = 99 ∨ c = 122
def sp_x_law_steps : Sp := fun vs H Q _ => ∃ (r : Addr) (count most : Nat), vs = [.ref r, .int count, .int most] ∧ RowAt K H r ∧ count ≤ 30 ∧ 1 ≤ most ∧ most ≤ 1000 ∧
  ∀ a ms ss H', Kp H H' → RowAt K H' r → SqT K H' a ms → StepsAt K H' ms ss → okFrom 0 ss → ss.length ≤ count → sz ss ≤ most → (1 ≤ count → 20 ≤ most → 1 ≤ sz ss) → okLs ss → Q (.ref a) H'
end
end L2.Px
namespace L2.Px
open PySem PySem.Spec PyProof.Rows StX TL
theorem nr_nats {l : List Nat} : ¬ isRow (.lst (l.map fun m => V.int (m : Nat))) := nr_vals fun v hv => by obtain ⟨i, _, rfl⟩ := List.mem_map.mp hv; rfl
theorem StepsAt.snoc {K : PySem.W.Frag} {H : Hp} {ms : List V} {ss : List Stp} {v : V} {s : Stp} (h : StepsAt K H ms ss) (g : StepAt K H v s) : StepsAt K H (ms ++ [v]) (ss ++ [s]) := h.append (.one g)
theorem StepsAt.nil {K : PySem.W.Frag} {H : Hp} : StepsAt K H [] [] := ⟨rfl, fun j s h => by simp at h⟩
theorem ok_snoc {ss : List Stp} {s : Stp} (ok : okFrom 0 ss) (h : okStep (sz ss) s) (hz : sz ss + len1 s ≤ 1000000000000000000) : okFrom 0 (ss ++ [s]) := by
  rw [okFrom_append, Nat.zero_add]
  exact ⟨ok, h, hz, trivial⟩
theorem sz_snoc (ss : List Stp) (s : Stp) : sz (ss ++ [s]) = sz ss + len1 s := by rw [sz_append]; simp [sz]
theorem okWord.step {w : Str} {m n : Nat} (h : okWord w m) (hm : m ≤ 20) : okStep n (.wr w) := ⟨h.1, Nat.le_trans h.2.1 hm, fun c hc => by rcases h.2.2 c hc with e | e | e | e <;> omega⟩
theorem rd_ifOr {t u : TT} {st su : TS} {D : Ends} {σ : St} {H : Hp} (P : Hp → Prop) (ha : ∀ Hc, P Hc → st D σ Hc) (h : (∀ Hc, P Hc → (if true = true then st D σ Hc else su D σ Hc)) → tOr t u σ H fun b H1 => if b = true then st D σ H1 else su D σ H1) : tIfS (tOr t u) st su D σ H := h (fun Hc p => by rw [if_pos rfl]; exact ha Hc p)
theorem okLs.wr {ss : List Stp} {x : Str} {m : Nat} (h : okLs ss) (hx : okWord x m) : okLs (ss ++ [.wr x]) := fun c hc => by
  rw [tyL_append] at hc
  rcases List.mem_append.mp hc with hc | hc
  · exact h c hc
  · exact hx.2.2 c (by simpa [tyL, ty1] using hc)
theorem okLs.pa {ss : List Stp} {f l t : Nat} (h : okLs ss) : okLs (ss ++ [.pa f l t]) := fun c hc => by
  rw [tyL_append] at hc
  rcases List.mem_append.mp hc with hc | hc
  · exact h c hc
  · simp [tyL, ty1] at hc
theorem okLs.app {a b : List Stp} (h : okLs a) (g : okLs b) : okLs (a ++ b) := fun c hc => by
  rw [tyL_append] at hc
  exact (List.mem_append.mp hc).elim (h c) (g c)
end L2.Px
set_option Elab.async false
set_option linter.all false
set_option maxRecDepth 100000
set_option maxHeartbeats 1000000
namespace L2.Px
open PySem PySem.Spec PyProof.Rows StX
section
variable {X : Cx} {CX : CXT} {k : Nat} {C f : Addr} {sp : Sp} {E : XK}
def rEqO (K : PySem.W.Frag) (C : Addr) (sp : Sp) (E : XK) : R2 := fun x y H Q => ∃ a b, x = .ref a ∧ y = .ref b ∧ InsA H a C ∧ (InsA H b C ∨ ∃ xs, SqT K H b xs) ∧ sp [.ref a, .ref b] H Q E
def rNeO (C : Addr) (sp : Sp) (E : XK) : R2 := fun x y H Q => ∃ a b, x = .ref a ∧ y = .ref b ∧ InsA H a C ∧ InsA H b C ∧ sp [.ref a, .ref b] H (fun v H' => ∃ k, v = .bl k ∧ Q (.bl (!k)) H') E
theorem rd_eqO {K : PySem.W.Frag} {a b : Addr} {H : Hp} {Q : VK} (i : InsA H a C) (j : InsA H b C) (h : sp [.ref a, .ref b] H Q E) : rEqO K C sp E (.ref a) (.ref b) H Q := ⟨a, b, rfl, rfl, i, .inl j, h⟩
theorem rd_eqOT {K : PySem.W.Frag} {a b : Addr} {H : Hp} {Q : VK} {xs : List V} (i : InsA H a C) (j : SqT K H b xs) (h : sp [.ref a, .ref b] H Q E) : rEqO K C sp E (.ref a) (.ref b) H Q := ⟨a, b, rfl, rfl, i, .inr ⟨xs, j⟩, h⟩
theorem rd_neO {a b : Addr} {H : Hp} {Q : VK} (i : InsA H a C) (j : InsA H b C) (h : sp [.ref a, .ref b] H (fun v H' => ∃ k, v = .bl k ∧ Q (.bl (!k)) H') E) : rNeO C sp E (.ref a) (.ref b) H Q := ⟨a, b, rfl, rfl, i, j, h⟩
end
end L2.Px
namespace L2.Px
open PySem PySem.Spec PyProof.Rows StX TL
mutual
theorem eqv_refl : ∀ d : PyData, d.canLay0 = true → PyData.eqv d d = true
  | .none, _ => by simp only [PyData.eqv]
  | .bool b, _ => by simp [PyData.eqv]
  | .int i, _ => by simp [PyData.eqv]
  | .str x, _ => by simp [PyData.eqv]
  | .list xs, h => by
    have h' : PyData.canLayAll0 xs = true := by simpa [PyData.canLay0] using h
    simp only [PyData.eqv]; exact eqvAll_refl xs h'
  | .tuple xs, h => by
    have h' : PyData.canLayAll0 xs = true := by simpa [PyData.canLay0] using h
    simp only [PyData.eqv]; exact eqvAll_refl xs h'
  | .dict _, h => by simp [PyData.canLay0] at h
theorem eqvAll_refl : ∀ ds : List PyData, PyData.canLayAll0 ds = true → PyData.eqvAll ds ds = true
  | [], _ => by simp only [PyData.eqvAll]
  | d :: ds, h => by
    have h' : PyData.canLay0 d = true ∧ PyData.canLayAll0 ds = true := by simpa [PyData.canLayAll0] using h
    simp only [PyData.eqvAll, Bool.and_eq_true]
    exact ⟨eqv_refl d h'.1, eqvAll_refl ds h'.2⟩
end
/-- data whose depth is at most n -/
def DOk (n : Nat) (d : PyData) : Prop := d.canLay0 = true ∧ d.depth ≤ n
def DOkAll (n : Nat) (ds : List PyData) : Prop := PyData.canLayAll0 ds = true ∧ PyData.depthAll ds ≤ n
theorem DOk.shaped {n : Nat} {d : PyData} (h : DOk n d) (hn : n ≤ 64 := by decide) : SeqAt.shaped d = true := by
  unfold SeqAt.shaped
  rw [h.1, Bool.true_and]
  exact decide_eq_true (Nat.le_trans h.2 hn)
theorem DOkAll.of {n : Nat} {ds : List PyData} (h : ∀ d ∈ ds, DOk n d) : DOkAll n ds := by
  induction ds with
  | nil => exact ⟨by simp [PyData.canLayAll0], by simp [PyData.depthAll]⟩
  | cons d ds ih =>
    have h1 := h d List.mem_cons_self
    have h2 := ih fun e he => h e (List.mem_cons_of_mem _ he)
    refine ⟨by simp only [PyData.canLayAll0, Bool.and_eq_true]; exact ⟨h1.1, h2.1⟩, ?_⟩
    have a := h1.2; have b := h2.2
    simp only [PyData.depthAll]
    omega
theorem DOk.lst {n : Nat} {ds : List PyData} (h : ∀ d ∈ ds, DOk n d) : DOk (n + 1) (.list ds) := by
  have := DOkAll.of h
  exact ⟨by simp only [PyData.canLay0]; exact this.1, by simp only [PyData.depth]; have := this.2; omega⟩
theorem DOk.tup {n : Nat} {ds : List PyData} (h : ∀ d ∈ ds, DOk n d) : DOk (n + 1) (.tuple ds) := by
  have := DOkAll.of h
  exact ⟨by simp only [PyData.canLay0]; exact this.1, by simp only [PyData.depth]; have := this.2; omega⟩
theorem DOk.int {i : Int} : DOk 0 (.int i) := ⟨by simp [PyData.canLay0], by simp [PyData.depth]⟩
theorem DOk.bool {i : Bool} : DOk 0 (.bool i) := ⟨by simp [PyData.canLay0], by simp [PyData.depth]⟩
theorem DOk.non : DOk 0 .none := ⟨by simp [PyData.canLay0], by simp [PyData.depth]⟩
theorem DOk.str {x : Str} (h : PySem.PyData.strOk x = true) : DOk 0 (.str x) := ⟨by simp [PyData.canLay0, h], by simp [PyData.depth]⟩
theorem DOk.mono {n m : Nat} {d : PyData} (h : DOk n d) (hn : n ≤ m) : DOk m d := ⟨h.1, Nat.le_trans h.2 hn⟩
end L2.Px
namespace L2.Px
open PySem PySem.Spec PyProof.Rows StX TL
theorem strOk_of {x : Str} (h : ∀ c ∈ tl x, c ≤ 122) : PySem.PyData.strOk x = true := by
  unfold PySem.PyData.strOk
  rw [Array.all_eq_true']
  intro c hc
  have := h c (show c ∈ x.cps.toList from Array.mem_toList_iff.mpr hc)
  exact decide_eq_true (by omega)
def stD : Stp → PyData
  | .wr w => .tuple [.str "write", .str w]
  | .pa f l t => .tuple [.str "paste", .int f, .int l, .int t]
theorem stD_eq (s t : Stp) : PyData.eqv (stD s) (stD t) = decide (s = t) := by
  cases s <;> cases t <;> simp [stD, PyData.eqv, PyData.eqvAll, Bool.beq_eq_decide_eq, Int.natCast_inj]
theorem stDs_eq : ∀ a b : List Stp, PyData.eqvAll (a.map stD) (b.map stD) = decide (a = b)
  | [], [] => by simp [PyData.eqvAll]
  | [], _ :: _ => by simp [PyData.eqvAll]
  | _ :: _, [] => by simp [PyData.eqvAll]
  | s :: a, t :: b => by
    simp only [List.map_cons, PyData.eqvAll, stD_eq, stDs_eq a b]
    by_cases h : s = t <;> by_cases h2 : a = b <;> simp [h, h2]
section
variable {K : PySem.W.Frag} {H : Hp} {v w : V} {s : Stp} {ms xs : List V} {ss : List Stp} {ds : List PyData} {Q : VK} {n : Nat} {d : PyData}
theorem StepAt.dp (h : StepAt K H v s) : Dp K H v (stD s) := by
  obtain ⟨a, rfl, q⟩ := h
  cases s with
  | wr w => exact .tup q (.cons (.str _) (.cons (.str _) .nil))
  | pa f l t => exact .tup q (.cons (.str _) (.cons (.int _) (.cons (.int _) (.cons (.int _) .nil))))
theorem dpAll_of (hl : xs.length = ds.length) (h : ∀ (i : Nat) (v : V) (d : PyData), xs[i]? = some v → ds[i]? = some d → Dp K H v d) : DpAll K H xs ds := by
  induction xs generalizing ds with
  | nil => cases ds with
    | nil => exact .nil
    | cons d ds => simp at hl
  | cons x xs ih =>
    cases ds with
    | nil => simp at hl
    | cons d ds => exact .cons (h 0 x d rfl rfl) (ih (by simpa using hl) fun i v d a b => h (i + 1) v d (by simpa using a) (by simpa using b))
theorem StepsAt.dp (h : StepsAt K H ms ss) : DpAll K H ms (ss.map stD) := by
  refine dpAll_of (by rw [List.length_map, h.1]) fun i v d a b => ?_
  rw [List.getElem?_map] at b
  obtain ⟨s, hs, rfl⟩ := Option.map_eq_some_iff.mp b
  obtain ⟨v', e1, e2⟩ := h.2 i s hs
  rw [a] at e1; cases e1
  exact e2.dp
theorem okStep.dok {m : Nat} (h : okStep m s) : DOk 1 (stD s) := by
  cases s with
  | wr w =>
    refine .tup (n := 0) fun d hd => ?_
    simp only [List.mem_cons, List.not_mem_nil, or_false] at hd
    rcases hd with rfl | rfl
    · exact .str (by decide +kernel)
    · exact .str (strOk_of fun c hc => (h.2.2 c hc).2)
  | pa f l t =>
    refine .tup (n := 0) fun d hd => ?_
    simp only [List.mem_cons, List.not_mem_nil, or_false] at hd
    rcases hd with rfl | rfl | rfl | rfl
    · exact .str (by decide +kernel)
    · exact .int
    · exact .int
    · exact .int
theorem steps_dok (ok : okFrom 0 ss) : DOk 2 (.tuple (ss.map stD)) := by
  refine .tup fun d hd => ?_
  obtain ⟨s, hs, rfl⟩ := List.mem_map.mp hd
  obtain ⟨i, hi, rfl⟩ := List.getElem_of_mem hs
  exact (ok_at ok (List.getElem?_eq_getElem hi)).1.dok
theorem dp_nats {l : List Nat} : DpAll K H (l.map fun m => V.int (m : Nat)) (l.map fun m => PyData.int (m : Nat)) := by
  induction l with
  | nil => exact .nil
  | cons x l ih => exact .cons (.int _) ih
theorem nats_dok {l : List Nat} : DOk 1 (.list (l.map fun m => PyData.int (m : Nat))) := .lst fun d hd => by obtain ⟨i, _, rfl⟩ := List.mem_map.mp hd; exact .int
theorem dp_strs {l : List Nat} : DpAll K H (l.map fun c => V.str ⟨#[c]⟩) (l.map fun c => PyData.str ⟨#[c]⟩) := by
  induction l with
  | nil => exact .nil
  | cons x l ih => exact .cons (.str _) ih
theorem strs_dok {l : List Nat} (h : ∀ c ∈ l, c ≤ 122) : DOk 1 (.list (l.map fun c => PyData.str ⟨#[c]⟩)) := .lst fun d hd => by
  obtain ⟨c, hc, rfl⟩ := List.mem_map.mp hd
  exact .str (strOk_of fun x hx => by cases List.mem_singleton.mp (show x ∈ [c] from hx); exact h c hc)
theorem rd_eq_same (hv : Dp K H v d) (hw : Dp K H w d) (ok : DOk n d) (hn : n ≤ 64) (q : Q (.bl true) H) : rEqA K v w H Q := rd_eq_dat hv hw (ok.shaped hn) (ok.shaped hn) (by rw [eqv_refl d ok.1]; exact q)
theorem rd_ne_same (hv : Dp K H v d) (hw : Dp K H w d) (ok : DOk n d) (hn : n ≤ 64) (q : Q (.bl false) H) : rNeA K v w H Q := rd_ne_dat hv hw (ok.shaped hn) (ok.shaped hn) (by rw [eqv_refl d ok.1]; exact q)
variable (K) (CT CP : Addr)
def sp_Text_eq : Sp := fun vs H Q _ => ∃ a b t, vs = [.ref a, .ref b] ∧ TextAt K CT CP H a t ∧ ((∃ u, TextAt K CT CP H b u ∧ Q (.bl (decide (t.ss = u.ss))) H) ∨ ∃ xs, SqT K H b xs ∧ Q (.bl false) H)
end
end L2.Px
set_option Elab.async false
set_option linter.all false
set_option maxRecDepth 100000
set_option maxHeartbeats 1000000
namespace L2.Px
open PySem PySem.Spec PyProof.Rows StX TL
/-- alike, to a depth: equal ints or texts, or tuples (lists) of alike items -/
def Al (K : PySem.W.Frag) (H : Hp) : Nat → V → V → Prop
  | 0, _, _ => False
  | n + 1, v, w => (∃ i, v = .int i ∧ w = .int i) ∨ (∃ x, v = .str x ∧ w = .str x ∧ x.length ≤ sizeLine) ∨ ∃ a b xs ys, v = .ref a ∧ w = .ref b ∧ (SqT K H a xs ∧ SqT K H b ys ∨ SqL K H a xs ∧ SqL K H b ys) ∧ xs.length = ys.length ∧ xs.length ≤ sizeLine ∧ ∀ (i : Nat) x y, xs[i]? = some x → ys[i]? = some y → Al K H n x y
section
variable {K : PySem.W.Frag} {H H' : Hp} {Q : VK} {v w : V} {n : Nat} {xs : List V} {a : Addr}
theorem Al.mono (e : Same H H') : ∀ {n : Nat} {v w : V}, Al K H n v w → Al K H' n v w
  | 0, _, _, h => h.elim
  | n + 1, _, _, h => by
    rcases h with h | h | ⟨a, b, xs, ys, h1, h2, h3, h4, h5, h6⟩
    · exact .inl h
    · exact .inr (.inl h)
    · refine .inr (.inr ⟨a, b, xs, ys, h1, h2, ?_, h4, h5, fun i x y p q => Al.mono e (h6 i x y p q)⟩)
      rcases h3 with ⟨p, q⟩ | ⟨p, q⟩
      · exact .inl ⟨Same.tup e p, Same.tup e q⟩
      · exact .inr ⟨e.seq p, e.seq q⟩
end
end L2.Px
namespace L2.Px
open PySem PySem.Spec PyProof.Rows StX TL
section
variable {K : PySem.W.Frag} {H H' : Hp} {Q : VK} {v w : V} {n : Nat} {xs : List V} {a : Addr} {σ : St} {te ta tb : TE} {i j : Int} {tr : St → Hp → (Int → Int → Hp → Prop) → Prop}
theorem rgV_nat (a b : Nat) : rgV (a : Nat) (b : Nat) = (List.range' a (b - a)).map fun m => V.int (m : Nat) := by
  unfold rgV
  rw [List.range'_eq_map_range, List.map_map, show (((b : Nat) : Int) - (a : Nat)).toNat = b - a by omega]
  apply List.map_congr_left
  intro i _
  simp
theorem rd_listRg (h : tr σ H fun a b H1 => RgOk a b ∧ ∀ q, H1 q = none → Q (.ref q) (upd H1 q (.lst (rgV a b)))) : tLstRg tr σ H Q := h
theorem rd_rg1 {R : Int → Int → Hp → Prop} (h : ta σ H fun x H1 => ∃ n, x = .int n ∧ R 0 n H1) : tRg1 ta σ H R := h
theorem rd_rg2 {R : Int → Int → Hp → Prop} (h : ta σ H fun x H1 => tb σ H1 fun y H2 => ∃ i j, x = .int i ∧ y = .int j ∧ R i j H2) : tRg2 ta tb σ H R := h
theorem rd_mul_lst {k : Nat} (h : H a = some (.lst xs)) (hk : k < 2 ^ 62) (hz : xs.length * k ≤ sizeLine) (q : ∀ p, H p = none → Q (.ref p) (upd H p (.lst (List.replicate k xs).flatten))) : rMulA (.ref a) (.int k) H Q :=
  .inr ⟨a, k, xs, rfl, rfl, h, by omega, by omega, by rw [Int.toNat_natCast]; exact hz, by rw [Int.toNat_natCast]; exact q⟩
theorem cutV_nat (xs : List V) (i j : Nat) (hj : j ≤ xs.length) : cutV xs (some (i : Nat)) (some (j : Nat)) = (xs.drop i).take (j - i) := by
  unfold cutV
  rw [HT.sIx_nat, HT.sIx_nat, Nat.min_eq_left hj]
  rcases Nat.le_total i xs.length with h | h
  · rw [Nat.min_eq_left h]
  · rw [Nat.min_eq_right h, List.drop_of_length_le (Nat.le_refl _), List.drop_of_length_le h]; simp
end
theorem ks_take_wr {ss : List Stp} {j : Nat} {w : Str} (h : ss[j]? = some (.wr w)) : ks (ss.take (j + 1)) = ks (ss.take j) ++ List.range' (tyL (ss.take j)).length w.length := by
  unfold ks; rw [run_take h]; simp only [stepK]; rw [run_snd]
theorem ks_take_pa {ss : List Stp} {j f l t : Nat} (h : ss[j]? = some (.pa f l t)) : ks (ss.take (j + 1)) = ks (ss.take j) ++ (List.replicate t (((ks (ss.take j)).drop f).take (l - f + 1))).flatten := by
  unfold ks; rw [run_take h]; simp only [stepK]
theorem sz_take_le {ss : List Stp} (j : Nat) : sz (ss.take j) ≤ sz ss := by
  conv => rhs; rw [← List.take_append_drop j ss, sz_append]
  omega
end L2.Px
namespace L2.Px
open PySem PySem.Spec PyProof.Rows StX TL
section
variable {K : PySem.W.Frag} {H H' : Hp} {Q : VK} {v w : V} {n : Nat} {xs : List V} {a C : Addr} {σ : St} {ta tb : TE} {sp : Sp} {E : XK} {t : TA} {ss : List Stp} {ms : List V}
theorem rd_ixO (h : ta σ H fun x H1 => tb σ H1 fun y H2 => ∃ a, x = .ref a ∧ InsA H2 a C ∧ sp [x, y] H2 Q E) : tIxOwn C sp E ta tb σ H Q := h
theorem rd_ref1 {A : Addr → Prop} (h : A a) : ∃ a', V.ref a = .ref a' ∧ A a' := ⟨a, rfl, h⟩
theorem letters_ok : ∀ {ss : List Stp} {n : Nat}, okFrom n ss → ∀ c ∈ tyL ss, 97 ≤ c ∧ c ≤ 122
  | [], _, _, c, hc => by simp [tyL] at hc
  | .wr w :: r, n, ⟨h1, _, h3⟩, c, hc => by
    simp only [tyL, ty1, List.mem_append] at hc
    rcases hc with hc | hc
    · exact h1.2.2 c hc
    · exact letters_ok h3 c hc
  | .pa f l t :: r, n, ⟨h1, _, h3⟩, c, hc => by
    simp only [tyL, ty1, List.nil_append] at hc
    exact letters_ok h3 c hc
theorem Al.int {i : Int} : Al K H (n + 1) (.int i) (.int i) := .inl ⟨i, rfl, rfl⟩
theorem Al.str {x : Str} (h : x.length ≤ sizeLine) : Al K H (n + 1) (.str x) (.str x) := .inr (.inl ⟨x, rfl, rfl, h⟩)
theorem Al.step {s : Stp} {m : Nat} (ok : okStep m s) (h : StepAt K H v s) (g : StepAt K H w s) : Al K H (n + 2) v w := by
  obtain ⟨a, rfl, qa⟩ := h
  obtain ⟨b, rfl, qb⟩ := g
  refine .inr (.inr ⟨a, b, _, _, rfl, rfl, .inl ⟨qa, qb⟩, rfl, ?_, fun i x y hx hy => ?_⟩)
  · have := four_line
    cases s <;> simp [stV] <;> omega
  · rw [hx] at hy; cases hy
    have hm := List.mem_of_getElem? hx
    cases s with
    | wr w =>
      simp only [stV, List.mem_cons, List.not_mem_nil, or_false] at hm
      rcases hm with rfl | rfl
      · exact Al.str (str_small (by decide +kernel))
      · exact Al.str (str_small ok.2.1)
    | pa f l t =>
      simp only [stV, List.mem_cons, List.not_mem_nil, or_false] at hm
      rcases hm with rfl | rfl | rfl | rfl
      · exact Al.str (str_small (by decide +kernel))
      · exact Al.int
      · exact Al.int
      · exact Al.int
theorem Al.steps {a b : Addr} {xs ys : List V} (ok : okFrom 0 ss) (ha : SqT K H a xs) (hb : SqT K H b ys) (h : StepsAt K H xs ss) (g : StepsAt K H ys ss) (few : ss.length ≤ 31) : Al K H (n + 3) (.ref a) (.ref b) := by
  refine .inr (.inr ⟨a, b, _, _, rfl, rfl, .inl ⟨ha, hb⟩, by rw [h.1, g.1], by rw [h.1]; have := twenty_line; omega, fun i x y hx hy => ?_⟩)
  obtain ⟨s, hs, h1⟩ := h.at hx
  obtain ⟨s2, hs2, h2⟩ := g.at hy
  rw [hs] at hs2; cases hs2
  exact Al.step (ok_at ok hs).1 h1 h2
variable (K) (CT CP : Addr)
end
end L2.Px
namespace L2.Px
open PySem PySem.Spec PyProof.Rows StX TL
end L2.Px
namespace L2.Px
open PySem PySem.Spec PyProof.Rows StX TL
end L2.Px
namespace L2.Px
open PySem PySem.Spec PyProof.Rows StX TL
def rJoin (K : PySem.W.Frag) : V → List V → Hp → VK → Prop := fun x xs H Q => ∃ a p, ∃ ys : List Str, x = .str a ∧ xs = [.ref p] ∧ (SqL K H p (ys.map V.str) ∨ SqT K H p (ys.map V.str)) ∧ (ys.map (·.length)).sum + ys.length * a.length ≤ 16777216 ∧ Q (.str (Txt.join a ys)) H
theorem pe_joinK {X : Cx} {K : PySem.W.Frag} {o e : Expr} {to te : TE} {apos pos : Pos} (hk : X.K = K) (ho : PE X o to) (he : PE X e te) (hs : starEach [e] X.env = [(false, eval e X.env)] := by rfl) (hbase : attributeBase o "join" X.env (eval o X.env) = eval o X.env := by rfl) (hline : (apos.endLine == pos.line) = true := by rfl) :
    PE X (.Call (.Attribute o "join" apos) [e] [] pos) (tM1 (rJoin K) to te) := hk ▸ pe_join ho he hs hbase hline
theorem rd_m1 {r : V → List V → Hp → VK → Prop} {to te : TE} {σ : St} {H : Hp} {Q : VK} (h : to σ H fun x H1 => (∃ a, x = .str a) ∧ te σ H1 fun y H2 => r x [y] H2 Q) : tM1 r to te σ H Q := h
end L2.Px
set_option Elab.async false
set_option linter.all false
set_option maxRecDepth 100000
set_option maxHeartbeats 1000000
namespace L2.Px
open PySem PySem.Spec PyProof.Rows StX TL
/-- the text of steps ss stands at a -/
def TX (K : PySem.W.Frag) (CT CP : Addr) (H : Hp) (a : Addr) (ss : List Stp) : Prop := ∃ t, TextAt K CT CP H a t ∧ t.ss = ss
/-- a list or a tuple of the steps ss -/
def SX (K : PySem.W.Frag) (H : Hp) (a : Addr) (ss : List Stp) : Prop := ∃ ms, (SqT K H a ms ∨ H a = some (.lst ms)) ∧ StepsAt K H ms ss
/-- a tuple of the steps ss -/
def TS' (K : PySem.W.Frag) (H : Hp) (a : Addr) (ss : List Stp) : Prop := ∃ ms, SqT K H a ms ∧ StepsAt K H ms ss
def natV (L : List Nat) : List V := L.map fun m => V.int (m : Nat)
def kat (ss : List Stp) (p : Nat) : Nat := (ks ss)[p]?.getD 0
def lat (ss : List Stp) (k : Nat) : Nat := (tyL ss)[k]?.getD 0
section
variable {K : PySem.W.Frag} {CT CP : Addr} {H H' : Hp} {Q : VK} {E : XK} {a b r : Addr} {ss tt : List Stp} {i j : Int} {v : V} {o : HO} {xs : List V} {L : List Nat}
theorem TX.kp (h : TX K CT CP H a ss) (e : Kp H H') : TX K CT CP H' a ss := let ⟨t, T, q⟩ := h; ⟨t, T.kp e, q⟩
theorem TX.ok (h : TX K CT CP H a ss) : okFrom 0 ss := let ⟨t, T, q⟩ := h; q ▸ T.ok
theorem TX.few (h : TX K CT CP H a ss) : ss.length ≤ 30 := let ⟨t, T, q⟩ := h; q ▸ T.few
theorem TX.insA (h : TX K CT CP H a ss) : InsA H a CT := let ⟨t, T, q⟩ := h; T.insA
theorem TX.insM {m : Str} (h : TX K CT CP H a ss) (hm : m ≠ "total" ∧ m ≠ "parts" ∧ m ≠ "typed" ∧ m ≠ "made" := by decide +kernel) : InsM H a CT m := let ⟨t, T, q⟩ := h; T.insM hm
theorem SX.kp (h : SX K H a ss) (e : Kp H H') : SX K H' a ss := let ⟨ms, q, s⟩ := h; ⟨ms, q.elim (fun q => .inl (e.tup q)) (fun q => .inr (e _ _ (nr_refs s.refs) q)), s.kp e⟩
theorem TS'.kp (h : TS' K H a ss) (e : Kp H H') : TS' K H' a ss := let ⟨ms, q, s⟩ := h; ⟨ms, e.tup q, s.kp e⟩
theorem TS'.sx (h : TS' K H a ss) : SX K H a ss := let ⟨ms, q, s⟩ := h; ⟨ms, .inl q, s⟩
theorem nr_natV {L : List Nat} : ¬ isRow (.lst (natV L)) := nr_nats
theorem natV_len (L : List Nat) : (natV L).length = L.length := List.length_map _
theorem sl : sizeLine = 16777216 := sizeLine_eq
theorem kat_some (ok : okFrom 0 ss) {p : Nat} (h : p < sz ss) : (ks ss)[p]? = some (kat ss p) := by
  unfold kat; rw [List.getElem?_eq_getElem (by rw [ks_len ok]; exact h)]; rfl
theorem kat_lt (ok : okFrom 0 ss) {p : Nat} (h : p < sz ss) : kat ss p < (tyL ss).length := ks_lt (List.mem_of_getElem? (kat_some ok h))
theorem lat_some {k : Nat} (h : k < (tyL ss).length) : (tyL ss)[k]? = some (lat ss k) := by
  unfold lat; rw [List.getElem?_eq_getElem h]; rfl
theorem Same.lk (h : H a = some o) (s : Same H H') : H' a = some o := s _ _ h
theorem rd_taken (row : RowAt K H r) (h1 : 1 ≤ i) (h2 : i < 1073741824) (q : ∀ (n : Nat) H', (n : Int) < i → Kp H H' → RowAt K H' r → Q (.int n) H') : sp_x_law_taken K [.ref r, .int i] H Q E :=
  ⟨r, i.toNat, by rw [Int.toNat_of_nonneg (by omega)], row, by omega, by omega, fun n H' hn k w => q n H' (by omega) k w⟩
theorem rd_word (row : RowAt K H r) (h1 : 1 ≤ i) (h2 : i ≤ 20) (q : ∀ (w : Str) H', okWord w i.toNat → Kp H H' → RowAt K H' r → Q (.str w) H') : sp_x_law_word K [.ref r, .int i] H Q E :=
  ⟨r, i.toNat, by rw [Int.toNat_of_nonneg (by omega)], row, by omega, by omega, q⟩
theorem rd_stepsL (row : RowAt K H r) (h1 : 0 ≤ i) (h2 : i ≤ 30) (h3 : 20 ≤ j) (h4 : j ≤ 1000)
    (q : ∀ p ss H', Kp H H' → RowAt K H' r → TS' K H' p ss → okFrom 0 ss → (ss.length : Int) ≤ i → (sz ss : Int) ≤ j → (1 ≤ i → 1 ≤ sz ss) → Q (.ref p) H') : sp_x_law_steps K [.ref r, .int i, .int j] H Q E :=
  ⟨r, i.toNat, j.toNat, by rw [Int.toNat_of_nonneg (by omega), Int.toNat_of_nonneg (by omega)], row, by omega, by omega, by omega,
    fun p ms ss H' k w a b c d e f _ => q p ss H' k w ⟨ms, a, b⟩ c (by omega) (by omega) (fun z => f (by omega) (by omega))⟩
theorem rd_stepsQ (row : RowAt K H r) (h1 : 0 ≤ i) (h2 : i ≤ 30) (h3 : 20 ≤ j) (h4 : j ≤ 1000)
    (q : ∀ p ss H', Kp H H' → RowAt K H' r → TS' K H' p ss → okFrom 0 ss → (ss.length : Int) ≤ i → (sz ss : Int) ≤ j → (1 ≤ i → 1 ≤ sz ss) → okLs ss → Q (.ref p) H') : sp_x_law_steps K [.ref r, .int i, .int j] H Q E :=
  ⟨r, i.toNat, j.toNat, by rw [Int.toNat_of_nonneg (by omega), Int.toNat_of_nonneg (by omega)], row, by omega, by omega, by omega,
    fun p ms ss H' k w a b c d e f g => q p ss H' k w ⟨ms, a, b⟩ c (by omega) (by omega) (fun z => f (by omega) (by omega)) g⟩
theorem rd_listS (h : TS' K H a ss) (q : ∀ p H', Same H H' → SX K H' p ss → Q (.ref p) H') : rListA K [.ref a] H Q := by
  obtain ⟨ms, q1, st⟩ := h
  exact rd_list_tup q1 fun l hl => q l _ (Same.new (Same.refl _) hl) ⟨ms, .inr upd_same, st.mono (Same.new (Same.refl _) hl)⟩
theorem rd_ofSteps (h : SX K H a ss) (ok : okFrom 0 ss) (few : ss.length ≤ 30) (q : ∀ p H', Same H H' → TX K CT CP H' p ss → Q (.ref p) H') : sp_Text_of_steps K CT CP [.ref CT, .ref a] H Q E := by
  obtain ⟨ms, q1, st⟩ := h
  exact ⟨a, ms, ss, rfl, q1.elim .inl (fun z => .inr (SqL.of z)), st, ok, few, fun H' x t S T e => q x H' S ⟨t, T, e⟩⟩
theorem rd_pSize (h : TX K CT CP H a ss) (q : Q (.int (sz ss : Nat)) H) : ∃ a' dx fs, V.ref a = .ref a' ∧ H a' = some (.ins CT dx fs) ∧ sp_Text_size K CT CP [.ref a'] H Q E := by
  obtain ⟨t, T, rfl⟩ := h
  exact rd_prop_at T.insA ⟨a, t, rfl, T, q⟩
theorem rd_pTyped (h : TX K CT CP H a ss) (q : Q (.str (mkS (tyL ss))) H) : ∃ a' dx fs, V.ref a = .ref a' ∧ H a' = some (.ins CT dx fs) ∧ sp_Text_typed_keys K CT CP [.ref a'] H Q E := by
  obtain ⟨t, T, rfl⟩ := h
  exact rd_prop_at T.insA ⟨a, t, rfl, T, q⟩
theorem rd_pSteps (h : TX K CT CP H a ss) (q : ∀ p, TS' K H p ss → Q (.ref p) H) : ∃ a' dx fs, V.ref a = .ref a' ∧ H a' = some (.ins CT dx fs) ∧ sp_Text_steps K CT CP [.ref a'] H Q E := by
  obtain ⟨t, T, rfl⟩ := h
  exact rd_prop_at T.insA ⟨a, t, rfl, T, q _ ⟨t.ms, T.made, T.stp⟩⟩
theorem rd_keyOf (h : TX K CT CP H a ss) (h0 : 0 ≤ i) (h1 : i < sz ss) (q : Q (.int (kat ss i.toNat : Nat)) H) : sp_Text_key_of K CT CP [.ref a, .int i] H Q E := by
  have ok := h.ok
  obtain ⟨t, T, rfl⟩ := h
  exact ⟨a, t, i.toNat, _, by rw [Int.toNat_of_nonneg h0], T, kat_some ok (by omega), q⟩
theorem rd_oCall (h : TX K CT CP H a ss) (h0 : 0 ≤ i) (h1 : i < sz ss) (q : Q (.int (kat ss i.toNat : Nat)) H) : InsA H a CT ∧ sp_Text_call K CT CP [.ref a, .int i] H Q E := ⟨h.insA, rd_keyOf h h0 h1 q⟩
theorem rd_oItem (h : TX K CT CP H a ss) (h0 : 0 ≤ i) (h1 : i < sz ss) (q : Q (.str ⟨#[lat ss (kat ss i.toNat)]⟩) H) : ∃ a', V.ref a = .ref a' ∧ InsA H a' CT ∧ sp_Text_getitem K CT CP [.ref a, .int i] H Q E := by
  have ok := h.ok
  have hi : i.toNat < sz ss := by omega
  have hk := kat_lt ok hi
  obtain ⟨t, T, rfl⟩ := h
  exact ⟨a, rfl, T.insA, a, t, i.toNat, _, _, by rw [Int.toNat_of_nonneg h0], T, kat_some ok hi, lat_some hk, q⟩
theorem join_ok (h : TX K CT CP H a ss) (g : TX K CT CP H' b tt) (hz : sz ss + sz tt ≤ 1000000000000000000) : okFrom 0 (joinS ss tt) := ok_join h.ok g.ok hz
theorem rd_opAdd (h : TX K CT CP H a ss) (g : TX K CT CP H b tt) (hz : sz ss + sz tt ≤ 1000000000000000000) (hl : ss.length + tt.length ≤ 30)
    (q : ∀ p H', Same H H' → TX K CT CP H' p (joinS ss tt) → Q (.ref p) H') : rOwn CT (sp_Text_add K CT CP) E (.ref a) (.ref b) H Q := by
  have j := join_ok h g hz
  have ia := h.insA
  have ib := g.insA
  obtain ⟨t, T, rfl⟩ := h
  obtain ⟨u, U, rfl⟩ := g
  exact rd_own ia ib ⟨a, b, t, u, rfl, T, U, j, by rw [join_length]; exact hl, fun H' x z S Z e => q x H' S ⟨z, Z, e⟩⟩
theorem rd_opMul (h : TX K CT CP H a ss) (h1 : 1 ≤ i) (h2 : i ≤ 1000000000) (hz : (sz ss : Int) * i ≤ 1000000000000000000) (hl : ss.length + 1 ≤ 30)
    (q : ∀ p H', Same H H' → TX K CT CP H' p (mulS ss i.toNat) → Q (.ref p) H') : rOwnI CT (sp_Text_mul K CT CP) E (.ref a) (.int i) H Q := by
  have ok := h.ok
  have ia := h.insA
  obtain ⟨n, rfl⟩ : ∃ n : Nat, i = n := ⟨i.toNat, by omega⟩
  rw [Int.toNat_natCast] at q
  obtain ⟨t, T, rfl⟩ := h
  refine rd_ownI ia ⟨a, t, n, rfl, T, by omega, by omega, ok_mul ok (by omega) (by omega) (by rw [← Int.natCast_mul] at hz; omega), Nat.le_trans (mul_length _ _) hl, fun H' x z S Z e => q x H' S ⟨z, Z, e⟩⟩
theorem rd_mRetyped {k c : Nat} (h : TX K CT CP H a ss) (hk : k < (tyL ss).length) (hc : 97 ≤ c ∧ c ≤ 122) (q : ∀ p H', Same H H' → TX K CT CP H' p (rt k c 0 ss) → Q (.ref p) H') : sp_Text_retyped K CT CP [.ref a, .int (k : Nat), .str ⟨#[c]⟩] H Q E := by
  obtain ⟨t, T, rfl⟩ := h
  exact ⟨a, t, k, c, rfl, T, hk, hc.1, hc.2, fun H' x z S Z e => q x H' S ⟨z, Z, e⟩⟩
theorem rd_opEq (h : TX K CT CP H a ss) (g : TX K CT CP H b tt) (q : Q (.bl (decide (ss = tt))) H) : rEqO K CT (sp_Text_eq K CT CP) E (.ref a) (.ref b) H Q := by
  have ia := h.insA
  have ib := g.insA
  obtain ⟨t, T, rfl⟩ := h
  obtain ⟨u, U, rfl⟩ := g
  exact rd_eqO ia ib ⟨a, b, t, rfl, T, .inl ⟨u, U, q⟩⟩
theorem rd_opEqT (h : TX K CT CP H a ss) (g : TS' K H b tt) (q : Q (.bl false) H) : rEqO K CT (sp_Text_eq K CT CP) E (.ref a) (.ref b) H Q := by
  have ia := h.insA
  obtain ⟨t, T, rfl⟩ := h
  obtain ⟨ms, g, _⟩ := g
  exact rd_eqOT ia g ⟨a, b, t, rfl, T, .inr ⟨ms, g, q⟩⟩
theorem rd_opNe (h : TX K CT CP H a ss) (g : TX K CT CP H b tt) (q : Q (.bl (!decide (ss = tt))) H) : rNeO CT (sp_Text_eq K CT CP) E (.ref a) (.ref b) H Q := by
  have ia := h.insA
  have ib := g.insA
  obtain ⟨t, T, rfl⟩ := h
  obtain ⟨u, U, rfl⟩ := g
  exact rd_neO ia ib ⟨a, b, t, rfl, T, .inl ⟨u, U, _, rfl, q⟩⟩
theorem rd_andrfl {α : Type} {x : α} {A : Prop} (h : A) : x = x ∧ A := ⟨rfl, h⟩
theorem rd_mTx {m : Str} {ta : TA} {sp : Sp} {σ : St} (h : TX K CT CP H a ss) (hm : m ≠ "total" ∧ m ≠ "parts" ∧ m ≠ "typed" ∧ m ≠ "made") (q : ta σ H fun vs H2 => sp (.ref a :: vs) H2 Q E) : ∃ a', V.ref a = .ref a' ∧ InsM H a' CT m ∧ ta σ H fun vs H2 => sp (V.ref a :: vs) H2 Q E := rd_m_at (h.insM hm) q
theorem rd_lenN {l : Addr} (h : H l = some (.lst (natV L))) (q : Q (.int (L.length : Nat)) H) : rLenA K [.ref l] H Q := rd_len_lst (SqL.of h) (by rw [natV_len]; exact q)
theorem rd_lenL {l : Addr} (h : H l = some (.lst xs)) (q : Q (.int (xs.length : Nat)) H) : rLenA K [.ref l] H Q := rd_len_lst (SqL.of h) q
theorem rd_lenS {y : List Nat} (hz : y.length ≤ 16777216) (q : Q (.int (y.length : Nat)) H) : rLenA K [.str (mkS y)] H Q := rd_len_str (by rw [mkS_len, sizeLine_eq]; exact hz) (by rw [mkS_len]; exact q)
theorem rd_ixN {l : Addr} (h : H l = some (.lst (natV L))) (h0 : 0 ≤ i) (h1 : i < L.length) (q : Q (.int (L[i.toNat]?.getD 0 : Nat)) H) : rIx K (.ref l) (.int i) H Q := by
  obtain ⟨n, rfl⟩ : ∃ n : Nat, i = n := ⟨i.toNat, by omega⟩
  rw [Int.toNat_natCast] at q
  refine rd_ixLn (SqL.of h) ?_ q
  unfold natV
  rw [List.getElem?_map, List.getElem?_eq_getElem (by omega)]
  rfl
theorem rd_ixC {y : List Nat} (hz : y.length ≤ 16777216) (h0 : 0 ≤ i) (h1 : i < y.length) (q : Q (.str ⟨#[y[i.toNat]?.getD 0]⟩) H) : rIx K (.str (mkS y)) (.int i) H Q := by
  obtain ⟨n, rfl⟩ : ∃ n : Nat, i = n := ⟨i.toNat, by omega⟩
  rw [Int.toNat_natCast] at q
  refine rd_ixSn (by rw [mkS_len, sizeLine_eq]; exact hz) ?_ q
  rw [tl_mkS, List.getElem?_eq_getElem (by omega)]
  rfl
theorem rd_eqTT (h : TS' K H a ss) (g : TS' K H b tt) (o1 : okFrom 0 ss) (o2 : okFrom 0 tt) (q : Q (.bl (decide (ss = tt))) H) : rEqA K (.ref a) (.ref b) H Q := by
  obtain ⟨ms, h1, st1⟩ := h
  obtain ⟨ns, h2, st2⟩ := g
  refine rd_eq_dat (.tup h1 st1.dp) (.tup h2 st2.dp) (steps_dok o1).shaped (steps_dok o2).shaped ?_
  simp only [PyData.eqv]
  rw [stDs_eq]
  exact q
theorem rd_neTT (h : TS' K H a ss) (g : TS' K H b tt) (o1 : okFrom 0 ss) (o2 : okFrom 0 tt) (q : Q (.bl (!decide (ss = tt))) H) : rNeA K (.ref a) (.ref b) H Q := by
  obtain ⟨ms, h1, st1⟩ := h
  obtain ⟨ns, h2, st2⟩ := g
  refine rd_ne_dat (.tup h1 st1.dp) (.tup h2 st2.dp) (steps_dok o1).shaped (steps_dok o2).shaped ?_
  simp only [PyData.eqv]
  rw [stDs_eq]
  exact q
theorem ts_nil {p : Addr} (e : H p = some (.tup [])) : TS' K H p [] := ⟨[], SqT.of e, StepsAt.nil⟩
def sgn (c : Nat) : Str := ⟨#[c]⟩
theorem joinL_one : ∀ l : List Nat, joinL [] (l.map fun c => [c]) = l
  | [] => rfl
  | [_] => rfl
  | x :: y :: r => by
    show [x] ++ ([] ++ joinL [] ((y :: r).map fun c => [c])) = x :: y :: r
    rw [joinL_one (y :: r)]; rfl
theorem join_signs (l : List Nat) : Txt.join "" (l.map sgn) = mkS l := by
  apply ext_tl
  rw [join_eq, tl_join, List.map_map, show tl ("" : Str) = [] from rfl, tl_mkS]
  exact joinL_one l
theorem sum_ones (l : List Nat) : ((l.map sgn).map (·.length)).sum = l.length := by
  induction l with
  | nil => rfl
  | cons x l ih =>
    simp only [List.map_cons, List.sum_cons, List.length_cons] at ih ⊢
    rw [ih, show (sgn x).length = 1 from rfl]; omega
def sgV (l : List Nat) : List V := l.map fun c => V.str ⟨#[c]⟩
theorem rd_joinS {l : Addr} (h : H l = some (.lst (sgV L))) (hz : L.length ≤ 16777216) (q : Q (.str (mkS L)) H) : rJoin K (.str "") [.ref l] H Q := by
  refine ⟨"", l, L.map sgn, rfl, rfl, .inl (SqL.of (by rw [h]; unfold sgV; rw [List.map_map]; rfl)), ?_, by rw [join_signs]; exact q⟩
  rw [sum_ones, show ("" : Str).length = 0 from rfl]; omega
theorem kp_natV {l : Addr} (h : H l = some (.lst (natV L))) (k : Kp H H') : H' l = some (.lst (natV L)) := k _ _ nr_natV h
theorem nr_sgV : ¬ isRow (.lst (sgV L)) := nr_vals fun v hv => by obtain ⟨i, _, rfl⟩ := List.mem_map.mp hv; rfl
theorem kp_sgV {l : Addr} (h : H l = some (.lst (sgV L))) (k : Kp H H') : H' l = some (.lst (sgV L)) := k _ _ nr_sgV h
theorem dp_natV {l : Addr} (h : H l = some (.lst (natV L))) : Dp K H (.ref l) (.list (L.map fun m => PyData.int (m : Nat))) := .lst (SqL.of h) dp_nats
theorem nat_eqv : ∀ a b : List Nat, PyData.eqvAll (a.map fun m => PyData.int (m : Nat)) (b.map fun m => PyData.int (m : Nat)) = decide (a = b)
  | [], [] => by simp [PyData.eqvAll]
  | [], _ :: _ => by simp [PyData.eqvAll]
  | _ :: _, [] => by simp [PyData.eqvAll]
  | x :: a, y :: b => by
    simp only [List.map_cons, PyData.eqvAll, nat_eqv a b, PyData.eqv]
    by_cases h : x = y <;> by_cases h2 : a = b <;> simp [h, h2]
    omega
theorem sg_eqv : ∀ a b : List Nat, PyData.eqvAll (a.map fun c => PyData.str ⟨#[c]⟩) (b.map fun c => PyData.str ⟨#[c]⟩) = decide (a = b)
  | [], [] => by simp [PyData.eqvAll]
  | [], _ :: _ => by simp [PyData.eqvAll]
  | _ :: _, [] => by simp [PyData.eqvAll]
  | x :: a, y :: b => by
    simp only [List.map_cons, PyData.eqvAll, sg_eqv a b, PyData.eqv]
    by_cases h : x = y <;> by_cases h2 : a = b <;> simp [h, h2]
theorem rd_neNN {l m : Addr} {M : List Nat} (h : H l = some (.lst (natV L))) (g : H m = some (.lst (natV M))) (q : Q (.bl (!decide (L = M))) H) : rNeA K (.ref l) (.ref m) H Q :=
  rd_ne_dat (dp_natV h) (dp_natV g) (nats_dok.shaped (by decide)) (nats_dok.shaped (by decide)) (by simp only [PyData.eqv]; rw [nat_eqv]; exact q)
theorem rd_eqNN {l m : Addr} {M : List Nat} (h : H l = some (.lst (natV L))) (g : H m = some (.lst (natV M))) (q : Q (.bl (decide (L = M))) H) : rEqA K (.ref l) (.ref m) H Q :=
  rd_eq_dat (dp_natV h) (dp_natV g) (nats_dok.shaped (by decide)) (nats_dok.shaped (by decide)) (by simp only [PyData.eqv]; rw [nat_eqv]; exact q)
theorem dp_sgV {l : Addr} (h : H l = some (.lst (sgV L))) : Dp K H (.ref l) (.list (L.map fun c => PyData.str ⟨#[c]⟩)) := .lst (SqL.of h) dp_strs
theorem rd_neSS {l m : Addr} {M : List Nat} (h : H l = some (.lst (sgV L))) (g : H m = some (.lst (sgV M))) (b1 : ∀ c ∈ L, c ≤ 122) (b2 : ∀ c ∈ M, c ≤ 122) (q : Q (.bl (!decide (L = M))) H) : rNeA K (.ref l) (.ref m) H Q :=
  rd_ne_dat (dp_sgV h) (dp_sgV g) ((strs_dok b1).shaped (by decide)) ((strs_dok b2).shaped (by decide)) (by simp only [PyData.eqv]; rw [sg_eqv]; exact q)
theorem plain_nat {l : Addr} (h : H l = some (.lst (natV L))) : Plain (Itl K l) L.length (fun i => .int (L[i]?.getD 0 : Nat)) H where
  stop := fun H1 s => ⟨natV L, SqL.of (s _ _ h), by rw [natV_len]; exact Nat.le_refl _⟩
  go := fun i H1 s hi => ⟨natV L, .int (L[i]?.getD 0 : Nat), SqL.of (s _ _ h), by unfold natV; rw [List.getElem?_map, List.getElem?_eq_getElem hi]; rfl⟩
  yld := fun i H1 x H2 s hi y => ⟨y.1, by
    have e := y.2 _ (SqL.of (s _ _ h))
    unfold natV at e
    rw [List.getElem?_map, List.getElem?_eq_getElem hi] at e
    rw [List.getElem?_eq_getElem hi]
    exact (Option.some.inj e).symm⟩
theorem range_mapN (L : List Nat) (g : Nat → V) : (List.range L.length).map (fun i => g (L[i]?.getD 0)) = L.map g := by
  apply List.ext_getElem
  · simp
  · intro i h1 h2
    simp only [List.length_map, List.length_range] at h1 h2
    simp [List.getElem?_eq_getElem h1]
/-- the letters of all places -/
def ls (ss : List Stp) : List Nat := (ks ss).map (lat ss)
/-- a new object o of n items -/
def rNew (n : Nat) (o : HO) (H1 : Hp) (Q : VK) : Prop := n ≤ sizeLine ∧ ∀ p, H1 p = none → Q (.ref p) (upd H1 p o)
theorem rd_tupN {t : TA} {σ : St} (h : t σ H fun xs H1 => rNew xs.length (.tup xs) H1 Q) : tTup t σ H Q := h
theorem rd_lstN {t : TA} {σ : St} (h : t σ H fun xs H1 => rNew xs.length (.lst xs) H1 Q) : tLst t σ H Q := h
theorem rd_new {n : Nat} (hz : n ≤ sizeLine) (q : ∀ p H', Same H H' → H' p = some o → H p = none → Q (.ref p) H') : rNew n o H Q := ⟨hz, fun p hp => q p _ (Same.new (Same.refl _) hp) upd_same hp⟩
theorem rd_nameE {n : Nat} {σ σ' : St} {R : St → Hp → Prop} (e : σ.set n (some v) = σ') (h : R σ' H) : gName n v σ H R := by subst e; exact h
theorem rd_exStr {x : Str} {A : Prop} (h : A) : (∃ a, V.str x = .str a) ∧ A := ⟨⟨x, rfl⟩, h⟩
theorem rd_iNat {l : Addr} {A : Prop} (h : H l = some (.lst (natV L))) (q : A) : (∃ xs, SqL K H l xs) ∧ A := ⟨⟨_, SqL.of h⟩, q⟩
theorem rd_startE {N : List Str} {vs : List V} {σ' : St} {D : Ends} {t : TS} (e : start N vs = σ') (h : t D σ' H) : t D (start N vs) H := by subst e; exact h
end
end L2.Px
set_option Elab.async false
set_option linter.all false
set_option maxRecDepth 100000
set_option maxHeartbeats 1000000
namespace L2.Px
open PySem PySem.Spec PyProof.Rows StX ClX
section
variable {K : PySem.W.Frag} {h : Heap} {mg : Str → Option Value} {x m qual : Str} {st : Stmt} {ps : List Str} {C D f p g : Addr} {oc kV dc pm cd ct mc : Value} {od an : Option Addr} {sl : Array (Option Value)} {pv : Str} {rest : List Value}
/-- how a def binds n plain arguments -/
def BF (x qual : Str) (st : Stmt) (ps : List Str) : Prop := ∀ (kV doc pm : Value) (an : Option Addr) (cdv ct : Value) (us : List Value), us.length = ps.length → bindArgs (PySem.W.fnOf x qual (defArgs st) (defBody st) (defScope st) .none kV doc pm an cdv ct) ⟨us, []⟩ = pure (ps.zip us)
def BFS (x qual : Str) (st : Stmt) (ps : List Str) (pv : Str) : Prop := ∀ (kV doc pm : Value) (an : Option Addr) (cdv ct : Value) (us rest : List Value), us.length = ps.length → bindArgs (PySem.W.fnOf x qual (defArgs st) (defBody st) (defScope st) .none kV doc pm an cdv ct) ⟨us ++ rest, []⟩ = (newTuple rest >>= fun t => pure (ps.zip us ++ [(pv, t)]))
/-- the def object at f, as K has it -/
def AtF (K : PySem.W.Frag) (x qual : Str) (st : Stmt) (f : Addr) : Prop := ∃ oc od kV dc pm an cd ct sl, K.lookup f = some ⟨oc, od, .func (PySem.W.fnOf x qual (defArgs st) (defBody st) (defScope st) .none kV dc pm an cd ct), sl⟩ ∧ PySem.W.codeIn K cd qual = true
theorem atF (l : K.lookup f = some ⟨oc, od, .func (PySem.W.fnOf x qual (defArgs st) (defBody st) (defScope st) .none kV dc pm an cd ct), sl⟩) (c : PySem.W.codeIn K cd qual = true) : AtF K x qual st f := ⟨_, _, _, _, _, _, _, _, _, l, c⟩
theorem AtF.fun (a : AtF K x qual st f) (k : PySem.W.keepIn K (.ref f) = true) : ∃ fd, Fun K x qual st f fd := let ⟨_, _, _, _, _, _, _, _, _, l, c⟩ := a; ⟨_, fun_mk (st := st) l c k⟩
theorem defG_mk (X : K.In h) (G : h.Ns mainGlobals mg) (a : PySem.W.nsIn K mainGlobals x = some (some (.ref f))) (l : AtF K x x st f) (k : PySem.W.keepIn K (.ref f) = true) (b : BF x x st ps) : DefG K mg x st ps := by
  obtain ⟨fd, F⟩ := l.fun k
  exact ⟨f, fd, F, PySem.W.mg_of X G a, F.binds b⟩
theorem defM_mk (at_ : PySem.W.findIn K (.ref C) m = some (some (.ref f))) (fn : PySem.W.isFn K (.ref f) = true) (l : AtF K m qual st f) (k : PySem.W.keepIn K (.ref f) = true) (b : BF m qual st ps) : DefM K C m qual st ps := by
  obtain ⟨fd, F⟩ := l.fun k
  exact ⟨f, fd, F, ⟨at_, fn, k⟩, F.binds b⟩
theorem defX_mk {R : Addr → Prop} (r : R f) (l : AtF K m qual st f) (k : PySem.W.keepIn K (.ref f) = true) (b : BF m qual st ps) : DefX K R m qual st ps := by
  obtain ⟨fd, F⟩ := l.fun k
  exact ⟨f, fd, F, r, F.binds b⟩
theorem defP_mk (at_ : PySem.W.findIn K (.ref C) m = some (some (.ref p))) (get : PySem.W.specialIn K (.ref p) "__get__" = some (some (.builtin "property.__get__"))) (tak : PySem.W.takesIn K (.ref p) = some true) (rc : PySem.W.recIn K p "property" = some (.ref g :: rest))
    (l : AtF K m qual st g) (k : PySem.W.keepIn K (.ref g) = true) (b : BF m qual st ["self"]) : DefP K C m qual st := by
  obtain ⟨fd, F⟩ := l.fun k
  exact ⟨p, g, fd, F, ⟨at_, get, tak, rest, rc⟩, F.binds b⟩
theorem defC_mk (rd : PySem.W.readsIn K C mc = true) (ga : PySem.W.specialIn K (.ref C) "__getattribute__" = some (some (.builtin "type.__getattribute__"))) (at_ : PySem.W.findCls K (.ref C) mc m = some (.get (.builtin "classmethod.__get__") (.ref p) .none (.ref C)))
    (rc : PySem.W.recIn K p "classmethod" = some (.ref g :: rest)) (fi : PySem.W.fnIn K g = true) (l : AtF K m qual st g) (k : PySem.W.keepIn K (.ref g) = true) (b : BF m qual st ps) : DefC K C m qual st ps := by
  obtain ⟨fd, F⟩ := l.fun k
  exact ⟨mc, p, g, fd, F, ⟨rd, ga⟩, ⟨at_, ⟨rest, rc⟩, fi⟩, F.binds b⟩
theorem defK_mk (mk : PySem.W.makesIn K C = true) (at_ : PySem.W.findIn K (.ref C) "__init__" = some (some (.ref f))) (fn : PySem.W.isFn K (.ref f) = true) (kc : PySem.W.keepIn K (.ref C) = true) (l : AtF K "__init__" qual st f) (k : PySem.W.keepIn K (.ref f) = true) (b : BF "__init__" qual st ps) : DefK K C qual st ps := by
  obtain ⟨fd, F⟩ := l.fun k
  exact ⟨f, fd, F, ⟨mk, at_, fn, kc⟩, F.binds b⟩
theorem defKS_mk (mk : PySem.W.makesIn K C = true) (at_ : PySem.W.findIn K (.ref C) "__init__" = some (some (.ref f))) (fn : PySem.W.isFn K (.ref f) = true) (kc : PySem.W.keepIn K (.ref C) = true) (l : AtF K "__init__" qual st f) (k : PySem.W.keepIn K (.ref f) = true) (b : BFS "__init__" qual st ps pv) : DefKS K C qual st ps pv := by
  obtain ⟨oc, od, kV, dc, pm, an, cd, ct, sl, l, c⟩ := l
  exact ⟨f, _, fun_mk (st := st) l c k, ⟨mk, at_, fn, kc⟩, fun us rest hl => b kV dc pm an cd ct us rest hl⟩
theorem loose_int {p : Program} {lv : List (Str × PySem.W.WData)} {i : Int} (XL : PySem.W.XL p lv mg h) (hm : (x, PySem.W.WData.int i) ∈ lv) : ∃ t, mg x = some (.int i t) := by
  obtain ⟨v, e, r⟩ := XL.2.val _ hm
  cases r
  exact ⟨_, e⟩
theorem const_int {i : Int} {t : Tok} (X : K.In h) (G : h.Ns mainGlobals mg) (a : PySem.W.nsIn K mainGlobals x = some (some (.int i t))) : ∃ t, mg x = some (.int i t) := ⟨t, PySem.W.mg_of X G a⟩
theorem const_str {z : Str} {t : Tok} (X : K.In h) (G : h.Ns mainGlobals mg) (a : PySem.W.nsIn K mainGlobals x = some (some (.str z t))) : ∃ t, mg x = some (.str z t) := ⟨t, PySem.W.mg_of X G a⟩
theorem kit_self : PySem.W.kitOne K (.ref C) (.ref C) = some true := if_pos (by simp)
theorem kit_cls2 {b : Bool} (hn : C ≠ D) (h1 : PySem.W.isClsIn K D = true) (h2 : PySem.W.typeIn K (.ref D) = some (.type "type")) (h3 : PySem.W.subIn K (.ref C) (.ref D) = some b) : PySem.W.kitOne K (.ref C) (.ref D) = some b := by
  unfold PySem.W.kitOne
  rw [if_neg (by simp [hn])]
  rw [show PySem.W.kitCls K (.ref C) (.ref D) = (if ((PySem.W.clsIn K D).isSome && PySem.W.typeIn K (.ref D) == some (.type "type")) = true then PySem.W.subIn K (.ref C) (.ref D) else none) from rfl, if_pos (by rw [Bool.and_eq_true]; exact ⟨h1, by rw [h2]; simp⟩)]
  exact h3
end
end L2.Px
set_option Elab.async false
set_option linter.all false
set_option maxRecDepth 100000
set_option maxHeartbeats 2000000
namespace L2.Px
open PySem PySem.Spec PyProof.Rows StX LamX
structure Kl (T : List (Addr × Str)) (H H' : Hp) : Prop where
  keep : ∀ b o, ¬ isRow o → (∀ ps, o ≠ .tbl ps) → H b = some o → H' b = some o
  rows : ∀ (b sa : Addr) (i s e : Int), H b = some (.lst [.ref sa, .int i, .int s, .int e]) → ∃ i' s' e' : Int, H' b = some (.lst [.ref sa, .int i', .int s', .int e'])
  tabs : Tabs T H → Tabs T H'
section
variable {T : List (Addr × Str)} {H H' H1 : Hp}
theorem Kl.refl : Kl T H H := ⟨fun _ _ _ _ h => h, fun _ _ _ _ _ h => ⟨_, _, _, h⟩, id⟩
theorem Kl.trans (a : Kl T H H1) (b : Kl T H1 H') : Kl T H H' := ⟨fun c o hc hn h => b.keep c o hc hn (a.keep c o hc hn h), fun c sa i s e h => let ⟨i', s', e', h'⟩ := a.rows c sa i s e h; b.rows c sa i' s' e' h', fun t => b.tabs (a.tabs t)⟩
theorem tabS_kp {P : Addr} {q : Str} (t : TabS H P q) (e : Kp H H') : TabS H' P q :=
  let ⟨ps, a, b, d⟩ := t
  ⟨ps, e _ _ id a, b, fun pos cv hc => let ⟨c, x, y⟩ := d pos cv hc; ⟨c, x, e _ _ id y⟩⟩
theorem Kl.kp (e : Kp H H') : Kl T H H' := ⟨fun b o hr _ h => e b o hr h, e.rows, fun t p hp => tabS_kp (t p hp) e⟩
theorem Kl.same (e : Same H H') : Kl T H H' := .kp (.same e)
theorem Kl.ext (e : ExtN H H') (t : Tabs T H') : Kl T H H' := ⟨fun b o _ hn h => e b o h hn, fun b sa i s n h => ⟨_, _, _, e _ _ h fun ps z => nomatch z⟩, fun _ => t⟩
theorem Kl.tup {K : PySem.W.Frag} {a : Addr} {xs : List V} (e : Kl T H H') (h : SqT K H a xs) : SqT K H' a xs := by
  rcases h with (h | ⟨o, h⟩) | h
  · exact .inl (.inl (e.keep _ _ nr_tup (fun ps z => nomatch z) h))
  · exact .inl (.inr ⟨o, e.keep _ _ nr_frz (fun ps z => nomatch z) h⟩)
  · exact .inr h
theorem Kl.lst {K : PySem.W.Frag} {a : Addr} {xs : List V} (e : Kl T H H') (n : ¬ isRow (.lst xs)) (h : SqL K H a xs) : SqL K H' a xs := by
  rcases h with (h | ⟨o, h⟩) | h
  · exact .inl (.inl (e.keep _ _ n (fun ps z => nomatch z) h))
  · exact .inl (.inr ⟨o, e.keep _ _ nr_frz (fun ps z => nomatch z) h⟩)
  · exact .inr h
end
/-- all but tables of code -/
structure Kx (T : List (Addr × Str)) (H H' : Hp) : Prop where
  keep : ∀ b o, (∀ ps, o ≠ .tbl ps) → H b = some o → H' b = some o
  tabs : Tabs T H → Tabs T H'
section
variable {T : List (Addr × Str)} {H H' H1 : Hp}
theorem Kx.refl : Kx T H H := ⟨fun _ _ _ h => h, id⟩
theorem Kx.trans (a : Kx T H H1) (b : Kx T H1 H') : Kx T H H' := ⟨fun c o hn h => b.keep c o hn (a.keep c o hn h), fun t => b.tabs (a.tabs t)⟩
theorem Kx.kl (e : Kx T H H') : Kl T H H' := by
  refine ⟨fun b o hr hn h => e.keep b o hn h, fun b sa i s n h => ?_, e.tabs⟩
  exact ⟨i, s, n, e.keep _ _ (fun ps z => nomatch z) h⟩
theorem Kx.same (e : Same H H') : Kx T H H' := ⟨fun b o _ h => e b o h, (Kl.same e).tabs⟩
theorem Kx.ext (e : ExtN H H') (t : Tabs T H') : Kx T H H' := ⟨fun b o hn h => e b o h hn, fun _ => t⟩
theorem Kx.tup {K : PySem.W.Frag} {a : Addr} {xs : List V} (e : Kx T H H') (h : SqT K H a xs) : SqT K H' a xs := e.kl.tup h
theorem Kx.lst {K : PySem.W.Frag} {a : Addr} {xs : List V} (e : Kx T H H') (h : SqL K H a xs) : SqL K H' a xs := by
  rcases h with (h | ⟨o, h⟩) | h
  · exact .inl (.inl (e.keep _ _ (fun ps z => nomatch z) h))
  · exact .inl (.inr ⟨o, e.keep _ _ (fun ps z => nomatch z) h⟩)
  · exact .inr h
theorem Kx.row {K : PySem.W.Frag} {r : Addr} (e : Kx T H H') (h : RowAt K H r) : RowAt K H' r := let ⟨sa, sc, i, s, n, a, b⟩ := h.ex; ⟨sa, sc, i, s, n, e.keep _ _ (fun ps z => nomatch z) a, e.lst b⟩
end
structure FunC (K : PySem.W.Frag) (x qual : Str) (st : Stmt) (c f : Addr) (fd : FuncData) : Prop where
  ex : ∃ (oc : Value) (od : Option Addr) (kV doc pm : Value) (an : Option Addr) (ct : Value) (osl : Array (Option Value)),
    fd = PySem.W.fnOf x qual (defArgs st) (defBody st) (defScope st) .none kV doc pm an (.ref c) ct ∧ K.lookup f = some ⟨oc, od, .func fd, osl⟩ ∧ PySem.W.codeIn K (.ref c) qual = true
  kp : PySem.W.keepIn K (.ref f) = true
theorem FunC.fn {K : PySem.W.Frag} {x qual : Str} {st : Stmt} {c f : Addr} {fd : FuncData} (F : FunC K x qual st c f fd) : Fun K x qual st f fd :=
  let ⟨oc, od, kV, doc, pm, an, ct, osl, e, l, h⟩ := F.ex
  ⟨⟨oc, od, kV, doc, pm, an, _, ct, osl, e, l, h⟩, F.kp⟩
section
variable {P : Program} {w : World} {K : PySem.W.Frag} {mg : Str → Option Value} {base : Heap}
theorem FunC.ok {x qual : Str} {st : Stmt} {c f : Addr} {fd : FuncData} {N ps : List Str} {k : Nat} {sp : Sp} (F : FunC K x qual st c f fd) (S : FnScope N ps (defScope st)) (len : ∀ vs H Q E, sp vs H Q E → vs.length = ps.length)
    (hbody : ∀ (A : Around) (outer : List Env) (s : Shared) (H : Hp) (vs : List V) (Q : VK) (E : XK), Room k (A.deeper (envOfC qual (defScope st) s.heap.objs.size f (.ref c))) → sp vs H Q E →
      ∃ t, PSs (cxOf CX0 P w K mg base N qual (defScope st) f (.ref c) A outer s H E).nox (defBody st) t ∧ t { nx := fun _ H' => Q .non H', rt := Q } (start N vs) H) : FnOk P w K mg base CX0 (k + 1) f fd ps sp := by
  obtain ⟨oc, od, kV, doc, pm, an, ct, osl, rfl, lk, hcd⟩ := F.ex
  refine fn_of lk hcd S len fun A outer s H vs Q E hr hsp => ?_
  obtain ⟨t, h, q⟩ := hbody A outer s H vs Q E hr hsp
  exact ⟨t, h.nox, q⟩
end
/-- a def of the top, its code object at c -/
def DefGC (K : PySem.W.Frag) (mg : Str → Option Value) (x : Str) (st : Stmt) (ps : List Str) (c : Addr) : Prop := ∃ f fd, FunC K x x st c f fd ∧ mg x = some (.ref f) ∧ Binds K fd ps []
section
variable {P : Program} {w : World} {K : PySem.W.Frag} {mg : Str → Option Value} {base : Heap} {k : Nat} {ps : List Str} {sp : Sp} {x : Str} {st : Stmt} {c : Addr}
theorem DefGC.ok {N : List Str} (D : DefGC K mg x st ps c) (S : FnScope N ps (defScope st)) (len : ∀ vs H Q E, sp vs H Q E → vs.length = ps.length)
    (hbody : ∀ (f : Addr) (A : Around) (outer : List Env) (s : Shared) (H : Hp) (vs : List V) (Q : VK) (E : XK), Room k (A.deeper (envOfC x (defScope st) s.heap.objs.size f (.ref c))) → sp vs H Q E →
      ∃ t, PSs (cxOf CX0 P w K mg base N x (defScope st) f (.ref c) A outer s H E).nox (defBody st) t ∧ t { nx := fun _ H' => Q .non H', rt := Q } (start N vs) H) : GOk P w K mg base CX0 (k + 1) x sp := by
  obtain ⟨f, fd, F, a, b⟩ := D
  exact ⟨f, FnOk.toR (F.ok S len fun A outer s H vs Q E hr h => hbody f A outer s H vs Q E hr h) b, a, F.kp⟩
theorem DefGC.g (D : DefGC K mg x st ps c) : DefG K mg x st ps := let ⟨f, fd, F, a, b⟩ := D; ⟨f, fd, F.fn, a, b⟩
end
def lamOb (q : Str) (params : Arguments) (body : Expr) (scope : Scope) (cl : List (Str × Addr)) (dV : Value) (f c' : Addr) : HO :=
  .ext fun h => ∃ doc pm ctv : Value, h.get? f = some (PySem.W.kdv_obj "<lambda>" q params (.expr body) scope cl dV doc pm c' ctv)
/-- its names: captured ones, globals, and parameters bs that the maker does not know -/
structure LamC (N : List Str) (sc scope : Scope) (bs : List Str) : Prop where
  kind : scope.kind = .function
  co : scope.isCoroutine = false
  gen : scope.isGenerator = false
  own : ∀ y ∈ scope.names, y.2 ≠ .cell ∧ (y.2 = .local → y.1 ∉ N)
  free : ∀ y ∈ scope.names, y.2 = .free → sc.names.lookup y.1 = some .cell ∨ sc.names.lookup y.1 = some .free
  par : ∀ y ∈ bs, scope.names.lookup y = some .local
def lamCB (N : List Str) (sc scope : Scope) (bs : List Str) : Bool :=
  decide (scope.kind = .function) && (!scope.isCoroutine && (!scope.isGenerator && ((scope.names.all fun y => !decide (y.2 = .cell) && ((!decide (y.2 = .local) || !decide (y.1 ∈ N)) && (!decide (y.2 = .free) || (decide (sc.names.lookup y.1 = some .cell) || decide (sc.names.lookup y.1 = some .free))))) && bs.all fun y => decide (scope.names.lookup y = some .local))))
theorem lamC_by {N : List Str} {sc scope : Scope} {bs : List Str} (h : lamCB N sc scope bs = true) : LamC N sc scope bs := by
  unfold lamCB at h
  simp only [Bool.and_eq_true, Bool.or_eq_true, Bool.not_eq_true', decide_eq_true_eq, decide_eq_false_iff_not, List.all_eq_true] at h
  obtain ⟨h1, h2, h3, h4, h5⟩ := h
  refine ⟨h1, h2, h3, fun y hy => ⟨(h4 y hy).1, fun e => ((h4 y hy).2.1).elim (fun z => absurd e z) id⟩, fun y hy e => ((h4 y hy).2.2).elim (fun z => absurd e z) id, h5⟩
/-- how it binds nothing: no parameter, or one with a default -/
def LamB (params : Arguments) (body : Expr) (scope : Scope) (dV : Value) (bs : List Str) (H : Hp) : Prop :=
  (dV = .none ∧ bs = [] ∧ ∀ (q : Str) (cl : List (Str × Addr)) (doc pm cv ctv : Value), bindArgs (PySem.W.kdv_fn "<lambda>" q params (.expr body) scope cl .none doc pm cv ctv) ⟨[], []⟩ = pure []) ∨
    ∃ (T : Addr) (v : V) (b : Str), dV = .ref T ∧ bs = [b] ∧ H T = some (.tup [v]) ∧ ∀ (q : Str) (cl : List (Str × Addr)) (doc pm cv ctv u : Value), ∃ kk, bindArgs (PySem.W.kdv_fn "<lambda>" q params (.expr body) scope cl (.ref T) doc pm cv ctv) ⟨[], []⟩ = seqItems? (.ref T) >>= kk ∧ kk (some #[u]) = pure [(b, u)]
/-- at f stands a lambda of X's def whose body reads as t -/
def IsLam (X : Cx) (k : Nat) (t : XK → TE) (f : Addr) (H : Hp) : Prop := ∃ (params : Arguments) (body : Expr) (scope : Scope) (dV : Value) (bs : List Str) (c' : Addr),
  LamC X.N X.env.scope scope bs ∧ H f = some (lamOb (X.env.qual ++ "<lambda>") params body scope (cloFrom X.env.cells scope.names []) dV f c') ∧ H c' = some (CodeO c' (X.env.qual ++ "<lambda>")) ∧ LamB params body scope dV bs H ∧
  ∀ (A : Around) (outer : List Env) (s : Shared) (H1 : Hp) (E : XK), Room k (A.deeper (lamEnv X scope s.heap.objs.size f c')) → PE (lamCx X A outer s H1 E scope f c') body (t E)
theorem IsLam.mono {X : Cx} {k : Nat} {t : XK → TE} {f : Addr} {H H' : Hp} (h : IsLam X k t f H) (e : ∀ b o, ¬ isRow o → (∀ ps, o ≠ .tbl ps) → H b = some o → H' b = some o) : IsLam X k t f H' := by
  obtain ⟨p, b, sc, dV, bs, c', l, h1, h2, h3, h4⟩ := h
  refine ⟨p, b, sc, dV, bs, c', l, e _ _ id (fun ps z => nomatch z) h1, e _ _ id (fun ps z => nomatch z) h2, ?_, h4⟩
  rcases h3 with h3 | ⟨T, v, y, a1, a2, a3, a4⟩
  · exact .inl h3
  · exact .inr ⟨T, v, y, a1, a2, e _ _ nr_tup (fun ps z => nomatch z) a3, a4⟩
theorem IsLam.kl {X : Cx} {k : Nat} {t : XK → TE} {f : Addr} {H H' : Hp} {T : List (Addr × Str)} (h : IsLam X k t f H) (e : Kl T H H') : IsLam X k t f H' := h.mono e.keep
theorem LamC.has {N : List Str} {X : Cx} {scope : Scope} {bs : List Str} (L : LamC N X.env.scope scope bs) (ok : X.Ok) : ∀ y ∈ scope.names, y.2 = .free → ∃ c, X.env.cells.lookup y.1 = some c := fun y hy e =>
  (L.free y hy e).elim (fun k => ok.has _ (.inl k)) fun k => ok.has _ (.inr k)
section
variable {X : Cx} {pins : List (Addr × Obj)} {σ : St} {H : Hp} {s : Shared}
theorem lam_ob {q : Str} {params : Arguments} {body : Expr} {scope : Scope} {cl : List (Str × Addr)} {dV doc pm ctv : Value} {c' : Addr} {t' : Nat} (I : Inv X pins σ H s) :
    Inv X pins σ (upd H s.heap.objs.size (lamOb q params body scope cl dV s.heap.objs.size c')) { s with heap := s.heap.push (PySem.W.kdv_obj "<lambda>" q params (.expr body) scope cl dV doc pm c' ctv), toks := t' } := by
  have e := Heap.get?_push_size s.heap (o := PySem.W.kdv_obj "<lambda>" q params (.expr body) scope cl dV doc pm c' ctv) rfl
  exact I.laid (fun b u z => Heap.get?_push_of_some _ z) (Nat.le_refl _) ⟨⟨doc, pm, ctv, e⟩, ⟨_, e⟩, fun _ _ ⟨x, y, z, g⟩ st => ⟨x, y, z, st _ g⟩⟩
theorem lam_tail {T : List (Addr × Str)} {c P : Addr} {params : Arguments} {body : Expr} {scope : Scope} {pos : Pos} {fl : Nat} {dV : Value} {E : Value → Shared → Prop} {Q : Value → Shared → Prop} (I : Inv X pins σ H s) (TB : TabB X.base X.mg c P) (hcode : X.env.code = .ref c)
    (hm : (P, X.env.qual ++ "<lambda>") ∈ T) (hu : ∀ p ∈ T, p.1 = P → p.2 = X.env.qual ++ "<lambda>") (hT : Tabs T H) (hfree : ∀ y ∈ scope.names, y.2 = .free → ∃ c, X.env.cells.lookup y.1 = some c)
    (h : ∀ (f c' : Addr) (H1 : Hp) (s' : Shared), Inv X pins σ H1 s' → Kx T H H1 → H f = none → H1 f = some (lamOb (X.env.qual ++ "<lambda>") params body scope (cloFrom X.env.cells scope.names []) dV f c') → H1 c' = some (CodeO c' (X.env.qual ++ "<lambda>")) → Q (.ref f) s') :
    wpAny (model X.prog X.w) X.A (makeTail "<lambda>" (X.env.qual ++ "<lambda>") params (.expr body) scope X.env dV .none none pos fl) Q E s := by
  obtain ⟨ps, hP, tr, am⟩ := hT _ hm
  have atP : s.heap.get? P = some { cls := .none, data := .fields ps } := I.hok P _ hP
  have gG := I.mod.glob.keeps I.bk
  have bG : s.heap.BuiltinsAt X.mg P := TB.bm.keeps I.bk
  cases hc : codeAmong pos ps.toList with
  | some cv =>
    obtain ⟨c', rfl, hco⟩ := am pos cv hc
    refine PySem.W.kdv_makeTailHit (mg := X.mg) (closure_ok hfree) I.ok.glob gG hcode (TB.code.keeps I.bk) atP tr hc bG fun ctv doc h' tk hx hsz => ?_
    have I1 : Inv X pins σ H { s with heap := h' } := I.kept (t' := s.toks) hx
    have nF : H h'.objs.size = none := I.hok.fresh hsz
    exact h _ c' _ _ (lam_ob (t' := tk) (doc := doc) (pm := (X.mg "__name__").getD .none) (ctv := ctv) I1) (Kx.same (Same.new (Same.refl _) nF)) nF upd_same (lk_new nF hco)
  | none =>
    refine PySem.W.kdv_makeTail (mg := X.mg) (closure_ok hfree) I.ok.glob gG hcode (TB.code.keeps I.bk) atP tr hc TB.gP bG fun c' ctv doc h' tk hx hge hlt hrec htb => ?_
    obtain ⟨c2, oc, vs, t, e2, hoc, hd, hv⟩ := hrec
    obtain rfl := Value.ref.inj e2
    have nC : H c' = none := I.hok.fresh hge
    have hsz : s.heap.objs.size ≤ h'.objs.size := Nat.le_trans hge (Nat.le_of_lt hlt)
    have I1 := inv_table (t' := s.toks) (more := #[rawInt pos.line, rawInt pos.col, .ref c']) (h' := h') I hP hx htb hge ⟨oc, vs, t, hoc, hd, hv⟩
    generalize hH1 : upd (upd H P (.tbl (ps ++ #[rawInt pos.line, rawInt pos.col, .ref c']))) c' (CodeO c' (X.env.qual ++ "<lambda>")) = H1 at I1
    have eN : ExtN H H1 := fun b o e n => by
      have nP : b ≠ P := fun z => n ps (Option.some.inj (e.symm.trans (by rw [z]; exact hP)))
      rw [← hH1, upd_ne (ne_of_none e nC), upd_ne nP]; exact e
    have cN : H1 c' = some (CodeO c' (X.env.qual ++ "<lambda>")) := by rw [← hH1, upd_same]
    have T1 : Tabs T H1 := fun p hp => by
      by_cases hb : p.1 = P
      · rw [hu p hp hb, hb]
        have eL : (ps ++ #[rawInt pos.line, rawInt pos.col, .ref c']).toList = ps.toList ++ [rawInt pos.line, rawInt pos.col, .ref c'] := by simp
        refine ⟨ps ++ #[rawInt pos.line, rawInt pos.col, .ref c'], ?_, eL ▸ PySem.TriplesOk_snoc _ _ _ _ tr, fun p' cv hcv => ?_⟩
        · rw [← hH1, upd_ne (ne_of_none hP nC), upd_same]
        · rw [eL] at hcv
          rcases among_app _ tr hcv with z | z
          · obtain ⟨d, e1, e3⟩ := am p' cv z
            exact ⟨d, e1, eN _ _ e3 codeO_ne⟩
          · exact ⟨c', z, cN⟩
      · obtain ⟨ps', a1, a2, a3⟩ := hT p hp
        refine ⟨ps', ?_, a2, fun p' cv hcv => ?_⟩
        · rw [← hH1, upd_ne (ne_of_none a1 nC), upd_ne hb]; exact a1
        · obtain ⟨d, e1, e3⟩ := a3 p' cv hcv
          exact ⟨d, e1, eN _ _ e3 codeO_ne⟩
    have nF1 : H1 h'.objs.size = none := I1.hok.fresh (Nat.le_refl _)
    have nF : H h'.objs.size = none := I.hok.fresh hsz
    exact h _ c' _ _ (lam_ob (t' := tk) (doc := doc) (pm := (X.mg "__name__").getD .none) (ctv := ctv) I1) ((Kx.ext eN T1).trans (Kx.same (Same.new (Same.refl _) nF1))) nF upd_same (lk_new nF1 cN)
end
/-- the reading: a new lambda at f, known as IL -/
def tMkL (T : List (Addr × Str)) (IL : Addr → Hp → Prop) : TE := fun σ H Q => Tabs T H ∧ ∀ f H1, Kx T H H1 → H f = none → IL f H1 → Q (.ref f) H1
section
variable {X : Cx}
theorem pe_lam {T : List (Addr × Str)} {c P : Addr} {params : Arguments} {body : Expr} {scope : Scope} {pos : Pos} {k : Nat} {t : XK → TE} (TB : TabB X.base X.mg c P) (hcode : X.env.code = .ref c) (hm : (P, X.env.qual ++ "<lambda>") ∈ T) (hu : ∀ p ∈ T, p.1 = P → p.2 = X.env.qual ++ "<lambda>")
    (L : LamC X.N X.env.scope scope []) (hbody : ∀ (A : Around) (outer : List Env) (s : Shared) (H : Hp) (E : XK) (f c' : Addr), Room k (A.deeper (lamEnv X scope s.heap.objs.size f c')) → PE (lamCx X A outer s H E scope f c') body (t E))
    (hdef : defaultsOf params X.env = ([], []) := by rfl) (hb : ∀ (q : Str) (cl : List (Str × Addr)) (doc pm cv ctv : Value), bindArgs (PySem.W.kdv_fn "<lambda>" q params (.expr body) scope cl .none doc pm cv ctv) ⟨[], []⟩ = pure [] := by intros; rfl) :
    PE X (.Lambda params body scope pos) (tMkL T (IsLam X k t)) := by
  refine ⟨fun pins s σ H Q I ⟨hT, h⟩ => PySem.W.kla_eval hdef ?_⟩
  rw [makeFunction_eq]
  simp only [List.zip_nil_right, List.filterMap_nil, List.isEmpty_nil, if_true, pure_bind]
  refine lam_tail I TB hcode hm hu hT (L.has I.ok) fun f c' H1 s' I1 kl hf e1 e2 => ?_
  exact ⟨.ref f, H1, I1, rfl, h f H1 kl hf ⟨params, body, scope, .none, [], c', L, e1, e2, .inl ⟨rfl, rfl, hb⟩, fun A outer s H1 E => hbody A outer s H1 E f c'⟩⟩
end
end L2.Px
set_option Elab.async false
set_option linter.all false
set_option maxRecDepth 100000
set_option maxHeartbeats 2000000
namespace L2.Px
open PySem PySem.Spec PyProof.Rows StX LamX
/-- the def g calls what it got: TT is what it makes of the reading -/
def Gives (X : Cx) (Ng : List Str) (x : Str) (sg : Scope) (g : Addr) (cdg : Value) (bg : List Stmt) (a : Str) (TT : (XK → Hp → VK → Prop) → Hp → VK → Prop) : Prop :=
  ∀ (f : Addr) (s : Shared) (H : Hp) (Q : VK) (tl : XK → Hp → VK → Prop) (LP : Hp → Prop), Room 1 (X.A.deeper (envOfC x sg s.heap.objs.size g cdg)) →
    (∀ (W : WX) (pn : List (Addr × Obj)) (xe : Value → Shared → Prop) (E : XK) (p1 p2 : Pos), Takes ((cxOf CX0 X.prog X.w X.K X.mg X.base Ng x sg g cdg X.A X.stack s H E0).tr pn xe) W →
      PE ((cxOf CX0 X.prog X.w X.K X.mg X.base Ng x sg g cdg X.A X.stack s H E0).tr pn xe) (.Call (.Name a p1) [] [] p2) (fun σZ HZ Q => σZ[0]? = some (some (.ref f)) ∧ LP HZ ∧ (∀ cls d H', E cls d H' → W cls d σZ H') ∧ tl E HZ Q)) →
    LP H → TT tl H Q →
    ∃ t, PSs (cxOf CX0 X.prog X.w X.K X.mg X.base Ng x sg g cdg X.A X.stack s H E0).nox bg t ∧ t { nx := fun _ H' => Q .non H', rt := Q } (start Ng [.ref f]) H
section
variable {X : Cx} {pins0 : List (Addr × Obj)} {σ0 : St} {H0 H HZ : Hp} {s0 s s1 : Shared}
theorem clo_of {N : List Str} {scope : Scope} {bs : List Str} (L : LamC N X.env.scope scope bs) (ok : X.Ok) {y : Str} {c : Addr} (e : (cloFrom X.env.cells scope.names []).lookup y = some c) : X.env.cells.lookup y = some c :=
  NdefX.clo_cm (L.has ok) e
theorem clo_at {scope : Scope} {y : Str} (hl : scope.names.lookup y = some .free) : ∃ c, (cloFrom X.env.cells scope.names []).lookup y = some c := mem_lookup (cloFrom_has (acc := []) (PySem.mem_of_lookup hl))
/-- the lambda's frame is laid; what it captured is as in the maker's frame, at s0 -/
theorem lam_enter {A : Around} {outer : List Env} {E : XK} {scope : Scope} {bs : List Str} {f c' : Addr} {h₁ : Heap} {tk : Nat} {m : Str → Option Value} (I : Inv X pins0 σ0 H0 s0) (L : LamC X.N X.env.scope scope bs) (e0 : Env0 X.prog X.w X.K X.mg X.base A outer s1 HZ) (hd : A.handled = none)
    (un : ∀ y c, X.env.cells.lookup y = some c → ∀ ob, s0.heap.get? c = some ob → H0 c = none → (∃ sl, s1.heap.get? c = some { ob with slots := sl }) ∧ HZ c = none)
    (hns : h₁.Ns s1.heap.objs.size m) (kp : ∀ b o, s1.heap.get? b = some o → h₁.get? b = some o) : Inv (lamCx X A outer s1 HZ E scope f c') [] σ0 HZ { s1 with heap := h₁, toks := tk } := by
  have cell : ∀ {y : Str} {c : Addr} {v : Option Value}, X.env.cells.lookup y = some c → s0.heap.IsCell c v → h₁.IsCell c v ∧ HZ c = none := fun {y c v} e ⟨o, ho, hv⟩ => by
    obtain ⟨⟨sl, q⟩, n⟩ := un y c e o ho (I.freeC y c e)
    exact ⟨⟨_, kp _ _ q, hv⟩, n⟩
  have non : ∀ {b : Addr} {Z : Prop}, b ∈ ([] : List Addr) → Z := fun h => absurd h (by simp)
  have ok : (lamCx X A outer s1 HZ E scope f c').Ok := {
    mod := e0.mod, kind := L.kind, glob := rfl, blt := rfl, above := Nat.le_refl _
    inj := fun x y c a b => I.ok.inj x y c (clo_of L I.ok a) (clo_of L I.ok b)
    has := fun y hy => by
      have hy' : scope.names.lookup y = some .cell ∨ scope.names.lookup y = some .free := hy
      rcases hy' with z | z
      · exact absurd rfl (L.own _ (PySem.mem_of_lookup z)).1
      · exact clo_at z
    cab := fun y c z => absurd (show false = true from z) Bool.false_ne_true
    hd := fun _ => hd, frames := Around.frames_deeper e0.frames, stk := .inr ⟨rfl, rfl⟩
    exf := fun b z => non z, bs := e0.bs, bsz := e0.bsz, noex := fun b _ _ z => non z, exfs := fun b z => non z, funs := e0.funs, frf := e0.frf }
  refine ⟨ok, rfl, e0.bare, Un.kept kp, ⟨m, hns, fun i y v e1 e2 e3 => ?_⟩, fun y c e => ?_, e0.hok.fresh (Nat.le_refl _), fun y c e => ?_, fun q hq => absurd (show q ∈ ([] : List (Addr × Obj)) ++ [] from hq) (by simp), e0.hok.kept kp, I.len⟩
  · have vis : Vis scope y := e3
    rcases vis with k | k | k
    · exact absurd (List.mem_of_getElem? e1) ((L.own _ (PySem.mem_of_lookup k)).2 rfl)
    · exact absurd rfl (L.own _ (PySem.mem_of_lookup k)).1
    · have out := L.free _ (PySem.mem_of_lookup k) rfl
      obtain ⟨m0, _, look⟩ := I.loc
      obtain ⟨u, r, q⟩ := look i y v e1 e2 (out.elim (fun z => .inr (.inl z)) fun z => .inr (.inr z))
      obtain ⟨c, hc⟩ := clo_at (X := X) k
      rcases q with ⟨k', _⟩ | ⟨_, c3, e', z⟩
      · have k' : X.env.scope.names.lookup y = some .local := k'
        rcases out with z | z <;> exact absurd (k'.symm.trans z) (by simp)
      · obtain rfl := Option.some.inj (e'.symm.trans (clo_of L I.ok hc))
        exact ⟨u, r, .inr ⟨.inr k, _, hc, (cell e' z).1⟩⟩
  · obtain ⟨v, z⟩ := I.cell y c (clo_of L I.ok e)
    exact ⟨v, (cell (clo_of L I.ok e) z).1⟩
  · obtain ⟨v, z⟩ := I.cell y c (clo_of L I.ok e)
    exact (cell (clo_of L I.ok e) z).2
/-- how the lambda at f binds its nothing -/
theorem LamB.binds {params : Arguments} {body : Expr} {scope : Scope} {dV : Value} {bs : List Str} {q : Str} {cl : List (Str × Addr)} {doc pm cv ctv : Value} (hb : LamB params body scope dV bs H) (ht : ∀ T xs, H T = some (.tup xs) → ∃ its, Vals xs its ∧ s.heap.IsTuple T its.toArray) :
    ∃ bn : List (Str × Value), (∀ y ∈ bn, y.1 ∈ bs) ∧ BindsTo s (PySem.W.kdv_fn "<lambda>" q params (.expr body) scope cl dV doc pm cv ctv) ⟨[], []⟩ bn := by
  rcases hb with ⟨rfl, rfl, h⟩ | ⟨T, v, b, rfl, rfl, hT, h⟩
  · exact ⟨[], fun y hy => absurd hy (by simp), .of_eq (h _ _ _ _ _ _)⟩
  · obtain ⟨its, rv, o, ho, hc, n, hd⟩ := ht T _ hT
    obtain ⟨u, rfl, ru⟩ := rv.one
    obtain ⟨kk, h1, h2⟩ := h q cl doc pm cv ctv u
    exact ⟨[(b, u)], fun y hy => by rw [List.mem_singleton.mp hy]; exact List.mem_singleton.mpr rfl, .of_defaults rfl ho hd h1 h2⟩
/-- a(), within the def that got the lambda -/
theorem lam_act {CXg : CXT} {Eg : XK} {Ng : List Str} {qg : Str} {sg : Scope} {g f : Addr} {cdg : Value} {k i : Nat} {a : Str} {pn : List (Addr × Obj)} {xe : Value → Shared → Prop} {W : WX} {E : XK} {t : XK → TE} {p1 p2 : Pos} {fp : List Addr}
    (I : Inv X pins0 σ0 H0 s0) (un : Un (frs X.stack) fp H0 H s0.heap s.heap) (hfp : ∀ y c, X.env.cells.lookup y = some c → c ∉ fp)
    (tk : Takes ((cxOf CXg X.prog X.w X.K X.mg X.base Ng qg sg g cdg X.A X.stack s H Eg).tr pn xe) W) (hr : Room (k + 1) (X.A.deeper (envOfC qg sg s.heap.objs.size g cdg)))
    (hN : Ng[i]? = some a) (hv : Vis sg a) (hd : (a == ("__debug__" : Str)) = false := by decide) (hcd : (a == ("__classdict__" : Str)) = false := by decide) :
    PE ((cxOf CXg X.prog X.w X.K X.mg X.base Ng qg sg g cdg X.A X.stack s H Eg).tr pn xe) (.Call (.Name a p1) [] [] p2) (fun σZ HZ Q => σZ[i]? = some (some (.ref f)) ∧ IsLam X k t f HZ ∧ (∀ cls d H', E cls d H' → W cls d σZ H') ∧ t E σ0 HZ Q) := by
  refine ⟨fun pinsZ sZ σZ HZ Q IZ ⟨hs, hl, hW, ht⟩ => ?_⟩
  refine wpAny_Call_Name_kw (thn ((pe_var (pos := p1) hN hv hd hcd).run pinsZ sZ σZ HZ (fun v H1 => v = .ref f ∧ H1 = HZ) IZ ⟨.ref f, hs, rfl, rfl⟩) fun u s1 ⟨v, H1, I1, r1, ev, eH⟩ => ?_)
  subst ev
  rw [eH] at I1
  obtain rfl : u = Value.ref f := r1
  obtain ⟨params, body, scope, dV, bs, c', L, e1, e2, hb, hbody⟩ := hl
  obtain ⟨⟨doc, pm, ctv, of1⟩, _, _⟩ := I1.hok f _ e1
  obtain ⟨⟨oc, vs, tq, hoc, hdc, hvc⟩, _, _⟩ := I1.hok c' _ e2
  refine PySem.W.callWith_F0 ⟨_, _, _, _, of1⟩ ?_
  obtain ⟨bn, bin, bto⟩ := hb.binds (s := s1) (q := X.env.qual ++ "<lambda>") (cl := cloFrom X.env.cells scope.names []) (doc := doc) (pm := pm) (cv := .ref c') (ctv := ctv) fun T xs e => let ⟨its, rv, p, _⟩ := I1.tuple (SqT.of e); ⟨its, rv, p⟩
  have un1 : Un (frs X.stack) [] H HZ s.heap s1.heap := I1.base
  have rc : codeAny (model X.prog X.w) (X.A.deeper (envOfC qg sg s.heap.objs.size g cdg)) (.call (.ref f) ⟨[], []⟩) (CR (L2.CX X.prog X.w) (envOfC qg sg s.heap.objs.size g cdg :: X.stack) X.prog X.w HZ s1 Q E) s1 := by
    refine PySem.W.kla_callFunE hr.depth of1 rfl L.co L.gen rfl ⟨c', oc, vs, tq, rfl, hoc, hdc, hvc⟩ (bto _ _ _ _ ?_)
    refine wpAny_newFunctionEnv (fun y hy => (L.own y hy).1) (fun y hy => L.par _ (bin y hy)) (fun h₁ hns hsb => ⟨I1.nolimit.fresh _ hsb, ?_⟩) L.kind
    have kp : ∀ b o, s1.heap.get? b = some o → h₁.get? b = some o := fun b o e => hsb.extBut b o (Nat.ne_of_lt (Heap.lt_size e)) (Heap.get?_push_of_some _ e)
    have J : Inv (lamCx X (X.A.deeper (envOfC qg sg s.heap.objs.size g cdg)) (envOfC qg sg s.heap.objs.size g cdg :: X.stack) s1 HZ E scope f c') [] σ0 HZ { s1 with heap := h₁, toks := s1.toks + bn.length } :=
      lam_enter I L I1.env0 hr.hd (fun y c e ob ho n => by
        obtain ⟨sl, q⟩ := un.any ho n (hfp y c e)
        have n1 := un.free c ob ho n (hfp y c e)
        obtain ⟨sl2, q2⟩ := un1.any q n1 (by simp)
        exact ⟨⟨sl2, q2⟩, un1.free c _ q n1 (by simp)⟩) hns kp
    refine PySem.W.kla_codeExpr (wpAny_mono ((hbody _ _ s1 HZ E (hr.deeper _)).run [] _ _ HZ Q J ht) (fun v s' ⟨w', H', J', rv, q⟩ => ?_) fun e s' hq => hq)
    exact ⟨w', H', J'.os, J'.bare, J'.base, J'.hok, rv, q⟩
  refine wpAny_call (codeAny_mono rc fun r s' hq => ?_)
  match r, hq with
  | .error e, hq => exact tk e s' (XE.of_call I1 hW hq)
  | .ok (.ret u), hq => exact I1.after hq
  | .ok .next, hq => exact hq.elim
  | .ok .brk, hq => exact hq.elim
  | .ok .cont, hq => exact hq.elim
/-- the def that gets the lambda is run -/
theorem giv_run {x a : Str} {g f : Addr} {st : Stmt} {fd : FuncData} {N : List Str} {k : Nat} {t : XK → TE} {TT : (XK → Hp → VK → Prop) → Hp → VK → Prop} {Q : VK} {fp : List Addr} (I : Inv X pins0 σ0 H0 s0) (un : Un (frs X.stack) fp H0 H s0.heap s.heap) (hfp : ∀ y c, X.env.cells.lookup y = some c → c ∉ fp)
    (F : Fun X.K x x st g fd) (b : Binds X.K fd [a] []) (S : FnScope N [a] (defScope st)) (hN : N[0]? = some a) (hva : Vis (defScope st) a) (hG : ∀ g cdg, Gives X N x (defScope st) g cdg (defBody st) a TT) (hr : Room (k + 2) X.A) (e0 : Env0 X.prog X.w X.K X.mg X.base X.A X.stack s H)
    (hl : IsLam X k t f H) (h : TT (fun E H' Q' => t E σ0 H' Q') H Q) (hd : (a == ("__debug__" : Str)) = false := by decide) (hcd : (a == ("__classdict__" : Str)) = false := by decide) :
    codeAny (model X.prog X.w) X.A (.call (.ref g) ⟨[.ref f], []⟩) (CR CX0 X.stack X.prog X.w H s Q E0) s := by
  obtain ⟨oc, od, kV, doc, pm, an, cdv, ct, osl, rfl, lk, hcd'⟩ := F.ex
  have kin : X.K.In s.heap := e0.mod.kin.keeps fun b o e => (e0.bs b o e).1
  refine run_ofS (N := N) (ps := [a]) (us := [.ref f]) (vs := [.ref f]) lk hcd' S hr e0 (by have := b s [.ref f] kin rfl; simpa using this) (.cons rfl .nil) rfl fun hr' => ?_
  obtain ⟨t', ht', hq'⟩ := hG g cdv f s H Q (fun E H' Q' => t E σ0 H' Q') (fun HZ => IsLam X k t f HZ) (hr'.mono (by omega)) (fun W pn xe E p1 p2 tk => lam_act (i := 0) I un hfp tk hr' hN hva hd hcd) hl h
  exact ⟨t', ht'.nox, hq'⟩
end
/-- x(e), e a lambda of this def: σ0, the slots that the lambda sees, are the def's own -/
def tGiv (X : Cx) (k : Nat) (TT : (XK → Hp → VK → Prop) → Hp → VK → Prop) (te : TE) : TE := fun σ H Q => te σ H fun v H1 => ∃ f t, v = .ref f ∧ IsLam X k t f H1 ∧ TT (fun E H' Q' => t E σ H' Q') H1 Q
section
variable {X : Cx} {x a : Str} {st : Stmt} {N : List Str} {k : Nat} {TT : (XK → Hp → VK → Prop) → Hp → VK → Prop} {e : Expr} {te : TE} {p pos : Pos}
theorem pe_giv (D : DefG X.K X.mg x st [a]) (S : FnScope N [a] (defScope st)) (hG : ∀ g cdg, Gives X N x (defScope st) g cdg (defBody st) a TT) (hr : Room (k + 2) X.A) (he : PE X e te) (hN : N[0]? = some a := by rfl) (hva : Vis (defScope st) a := by first | exact Or.inl rfl | exact Or.inr (Or.inl rfl))
    (hg : Gl X x := by rfl) (hdb : (x == ("__debug__" : Str)) = false := by decide) (hd : (a == ("__debug__" : Str)) = false := by decide) (hcd : (a == ("__classdict__" : Str)) = false := by decide)
    (hst : starEach [e] X.env = (false, eval e X.env) :: starEach [] X.env := by rfl) : PE X (.Call (.Name x p) [e] [] pos) (tGiv X k TT te) := by
  obtain ⟨g, fd, F, hm, b⟩ := D
  refine ⟨fun pins s σ H Q I h => wpAny_Call_Name_kw (ld_glob I hg hm ?_ hdb)⟩
  have ha : PA X [e] (tCons te tNil) := pa_cons he pa_nil hst
  refine PySem.W.callWith_K (h₀ := X.base) I.ok.mod.kin F.kp (thn (ha.run pos pins s σ H (fun vs H1 => match vs with | [v] => ∃ f t, v = .ref f ∧ IsLam X k t f H1 ∧ TT (fun E H' Q' => t E σ H' Q') H1 Q | _ => False) I h) fun us s1 ⟨vs, H1, I1, r, q0⟩ => ⟨I1.kIn, ?_⟩) hst (by rfl)
  match vs, q0, r with
  | [v], ⟨f, t, ef, hl, q⟩, r =>
    subst ef
    obtain ⟨u, rfl, ru⟩ := r.one
    obtain rfl : u = Value.ref f := ru
    refine wpAny_call (codeAny_mono (giv_run I1 (fp := []) Un.refl (fun _ _ _ => by simp) F b S hN hva hG hr I1.env0 hl q hd hcd) fun r s2 hq => ?_)
    match r, hq with
    | .error e, hq => exact (show False from hq).elim
    | .ok (.ret u), hq => exact I1.after hq
    | .ok .next, hq => exact hq.elim
    | .ok .brk, hq => exact hq.elim
    | .ok .cont, hq => exact hq.elim
end
end L2.Px
set_option Elab.async false
set_option linter.all false
set_option maxRecDepth 100000
set_option maxHeartbeats 2000000
namespace L2.Px
open PySem PySem.Spec PyProof.Rows StX LamX
end L2.Px
set_option Elab.async false
set_option linter.all false
set_option maxRecDepth 100000
set_option maxHeartbeats 2000000
namespace L2.Px
open PySem PySem.Spec PyProof.Rows StX ClX
section
variable {P : Program} {w : World} {K : PySem.W.Frag} {mg : Str → Option Value} {base : Heap} {CX : CXT} {k : Nat} {C : Addr} {ps : List Str} {sp sp' : Sp} {x m qual : Str} {st : Stmt} {f : Addr} {R : Addr → Prop}
theorem DefG.okX {N : List Str} (D : DefG K mg x st ps) (S : FnScope N ps (defScope st)) (len : ∀ vs H Q E, sp vs H Q E → vs.length = ps.length)
    (hbody : ∀ (f : Addr) (cdv : Value) (A : Around) (outer : List Env) (s : Shared) (H : Hp) (vs : List V) (Q : VK) (E : XK), Room k (A.deeper (envOfC x (defScope st) s.heap.objs.size f cdv)) → sp vs H Q E →
      ∃ t, PSs (cxOf (L2.CX P w) P w K mg base N x (defScope st) f cdv A outer s H E) (defBody st) t ∧ t { nx := fun _ H' => Q .non H', rt := Q } (start N vs) H) : GOk P w K mg base (L2.CX P w) (k + 1) x sp := by
  obtain ⟨f, fd, F, a, b⟩ := D
  exact ⟨f, FnOk.toR (F.okX S len fun cdv A outer s H vs Q E hr h => hbody f cdv A outer s H vs Q E hr h) b, a, F.kp⟩
theorem DefM.okX {N : List Str} (D : DefM K C m qual st ps) (S : FnScope N ps (defScope st)) (len : ∀ vs H Q E, sp vs H Q E → vs.length = ps.length)
    (hbody : ∀ (f : Addr) (cdv : Value) (A : Around) (outer : List Env) (s : Shared) (H : Hp) (vs : List V) (Q : VK) (E : XK), Room k (A.deeper (envOfC qual (defScope st) s.heap.objs.size f cdv)) → sp vs H Q E →
      ∃ t, PSs (cxOf (L2.CX P w) P w K mg base N qual (defScope st) f cdv A outer s H E) (defBody st) t ∧ t { nx := fun _ H' => Q .non H', rt := Q } (start N vs) H) : MOk P w K mg base (L2.CX P w) (k + 1) C m sp := by
  obtain ⟨f, fd, F, a, b⟩ := D
  exact ⟨f, FnOk.toR (F.okX S len fun cdv A outer s H vs Q E hr h => hbody f cdv A outer s H vs Q E hr h) b, a⟩
theorem DefX.okX {N : List Str} (D : DefX K R m qual st ps) (S : FnScope N ps (defScope st)) (len : ∀ vs H Q E, sp vs H Q E → vs.length = ps.length)
    (hbody : ∀ (f : Addr) (cdv : Value) (A : Around) (outer : List Env) (s : Shared) (H : Hp) (vs : List V) (Q : VK) (E : XK), Room k (A.deeper (envOfC qual (defScope st) s.heap.objs.size f cdv)) → sp vs H Q E →
      ∃ t, PSs (cxOf (L2.CX P w) P w K mg base N qual (defScope st) f cdv A outer s H E) (defBody st) t ∧ t { nx := fun _ H' => Q .non H', rt := Q } (start N vs) H) : XOk P w K mg base (L2.CX P w) (k + 1) R sp := by
  obtain ⟨f, fd, F, r, b⟩ := D
  exact ⟨f, FnOk.toR (F.okX S len fun cdv A outer s H vs Q E hr h => hbody f cdv A outer s H vs Q E hr h) b, r⟩
theorem DefC.okX {N : List Str} (D : DefC K C m qual st ps) (S : FnScope N ps (defScope st)) (len : ∀ vs H Q E, sp vs H Q E → vs.length = ps.length)
    (hbody : ∀ (f : Addr) (cdv : Value) (A : Around) (outer : List Env) (s : Shared) (H : Hp) (vs : List V) (Q : VK) (E : XK), Room k (A.deeper (envOfC qual (defScope st) s.heap.objs.size f cdv)) → sp vs H Q E →
      ∃ t, PSs (cxOf (L2.CX P w) P w K mg base N qual (defScope st) f cdv A outer s H E) (defBody st) t ∧ t { nx := fun _ H' => Q .non H', rt := Q } (start N vs) H) : COk P w K mg base (L2.CX P w) (k + 1) C m sp := by
  obtain ⟨mc, p, g, fd, F, r, c, b⟩ := D
  exact ⟨mc, p, g, FnOk.toR (F.okX S len fun cdv A outer s H vs Q E hr h => hbody g cdv A outer s H vs Q E hr h) b, r, c⟩
theorem DefK.okX {N : List Str} (D : DefK K C qual st ps) (S : FnScope N ps (defScope st)) (len : ∀ vs H Q E, sp vs H Q E → vs.length = ps.length)
    (hbody : ∀ (f : Addr) (cdv : Value) (A : Around) (outer : List Env) (s : Shared) (H : Hp) (vs : List V) (Q : VK) (E : XK), Room k (A.deeper (envOfC qual (defScope st) s.heap.objs.size f cdv)) → sp vs H Q E →
      ∃ t, PSs (cxOf (L2.CX P w) P w K mg base N qual (defScope st) f cdv A outer s H E) (defBody st) t ∧ t { nx := fun _ H' => Q .non H', rt := Q } (start N vs) H) : KOk P w K mg base (L2.CX P w) (k + 1) C sp := by
  obtain ⟨f, fd, F, M, b⟩ := D
  exact ⟨f, FnOk.toR (F.okX S len fun cdv A outer s H vs Q E hr h => hbody f cdv A outer s H vs Q E hr h) b, M⟩
theorem DefKS.okX {N : List Str} {pv : Str} (D : DefKS K C qual st ps pv) (S : FnScope N (ps ++ [pv]) (defScope st))
    (hbody : ∀ (f : Addr) (cdv : Value) (A : Around) (outer : List Env) (s : Shared) (H : Hp) (vs : List V) (Q : VK) (E : XK), Room k (A.deeper (envOfC qual (defScope st) s.heap.objs.size f cdv)) → sp vs H Q E →
      ∃ t, PSs (cxOf (L2.CX P w) P w K mg base N qual (defScope st) f cdv A outer s H E) (defBody st) t ∧ t { nx := fun _ H' => Q .non H', rt := Q } (start N vs) H) : KOk P w K mg base (L2.CX P w) (k + 1) C (spStar ps.length sp) := by
  obtain ⟨f, fd, F, M, hb⟩ := D
  obtain ⟨oc, od, kV, doc, pm, an, cdv, ct, osl, rfl, lk, hcd⟩ := F.ex
  exact ⟨f, fn_star (sp := sp) lk hcd S cxUp hb fun A outer s H vs Q E hr h => hbody f cdv A outer s H vs Q E hr h, M⟩
theorem fnR_up (F : FnR P w K mg base CX0 k f sp) : FnR P w K mg base CX k f sp := fun A outer s H us vs Q E hr e0 r h =>
  codeAny_mono (F A outer s H us vs Q E hr e0 r h) fun r s' hq => match r, hq with
    | .error e, hq => hq.elim
    | .ok (.ret u), hq => hq
    | .ok .next, hq => hq
    | .ok .brk, hq => hq
    | .ok .cont, hq => hq
theorem fnR_or (F : FnR P w K mg base CX k f sp) (G : FnR P w K mg base CX k f sp') : FnR P w K mg base CX k f (fun vs H Q E => sp vs H Q E ∨ sp' vs H Q E) := fun A outer s H us vs Q E hr e0 r h =>
  h.elim (F A outer s H us vs Q E hr e0 r) (G A outer s H us vs Q E hr e0 r)
/-- a def that answers or raises -/
theorem GOk.or {i j : Nat} (F : GOk P w K mg base CX0 i x sp) (G : GOk P w K mg base CX j x sp') (hi : i ≤ k) (hj : j ≤ k) : GOk P w K mg base CX k x (fun vs H Q E => sp vs H Q E ∨ sp' vs H Q E) := by
  obtain ⟨f, a1, a2, a3⟩ := F.mono hi
  obtain ⟨g, b1, b2, b3⟩ := G.mono hj
  cases a2.symm.trans b2
  exact ⟨f, fnR_or (fnR_up a1) b1, a2, a3⟩
theorem MOk.or {i j : Nat} (F : MOk P w K mg base CX0 i C m sp) (G : MOk P w K mg base CX j C m sp') (hi : i ≤ k) (hj : j ≤ k) : MOk P w K mg base CX k C m (fun vs H Q E => sp vs H Q E ∨ sp' vs H Q E) := by
  obtain ⟨f, a1, a2⟩ := F.mono hi
  obtain ⟨g, b1, b2⟩ := G.mono hj
  have e := a2.at_.symm.trans b2.at_
  simp only [Option.some.injEq, Value.ref.injEq] at e
  subst e
  exact ⟨f, fnR_or (fnR_up a1) b1, a2⟩
end
section
variable {X : Cx} {E : XK}
/-- what leaves a callee leaves this def -/
theorem passX (tk : Takes X (fun cls d _ H => E cls d H)) : Passes (L2.CX X.prog X.w) X E := passes_call tk fun _ _ _ _ h => h
end
/-- one that is only named -/
structure XNm (K : PySem.W.Frag) (mg : Str → Option Value) (x : Str) (C : Addr) : Prop where
  g : mg x = some (.ref C)
/-- one without an __init__ of its own -/
structure XPl (K : PySem.W.Frag) (mg : Str → Option Value) (x : Str) (C : Addr) : Prop where
  g : mg x = some (.ref C)
  ex : PySem.W.excIn K C [.type "ValueError", .type "Exception", .type "BaseException", .type "object"] "ValueError.__new__" = true
  kp : PySem.W.keepIn K (.ref C) = true
  sub : PySem.W.subIn K (.ref C) (.type "BaseException") = some true
  ty : PySem.W.typeIn K (.ref C) = some (.type "type")
/-- its __init__, as it stands; what it promises -/
def DefI (K : PySem.W.Frag) (C : Addr) (qual : Str) (st : Stmt) (ps : List Str) : Prop := ∃ f fd, Fun K "__init__" qual st f fd ∧ PySem.W.findIn K (.ref C) "__init__" = some (some (.ref f)) ∧ PySem.W.typeIn K (.ref f) = some (.type "function") ∧ Binds K fd ps []
def IOk (P : Program) (w : World) (K : PySem.W.Frag) (mg : Str → Option Value) (base : Heap) (k : Nat) (C : Addr) (ps : List Str) (sp : Sp) : Prop := ∃ f fd, FnOk P w K mg base CX0 k f fd ps sp ∧ PySem.W.findIn K (.ref C) "__init__" = some (some (.ref f)) ∧ PySem.W.typeIn K (.ref f) = some (.type "function") ∧ Binds K fd ps []
theorem DefI.ok {P : Program} {w : World} {K : PySem.W.Frag} {mg : Str → Option Value} {base : Heap} {k : Nat} {C : Addr} {qual : Str} {st : Stmt} {ps N : List Str} {sp : Sp} (D : DefI K C qual st ps) (S : FnScope N ps (defScope st)) (len : ∀ vs H Q E, sp vs H Q E → vs.length = ps.length)
    (hbody : ∀ (f : Addr) (cdv : Value) (A : Around) (outer : List Env) (s : Shared) (H : Hp) (vs : List V) (Q : VK) (E : XK), Room k (A.deeper (envOfC qual (defScope st) s.heap.objs.size f cdv)) → sp vs H Q E →
      ∃ t, PSs (cxOf CX0 P w K mg base N qual (defScope st) f cdv A outer s H E).nox (defBody st) t ∧ t { nx := fun _ H' => Q .non H', rt := Q } (start N vs) H) : IOk P w K mg base (k + 1) C ps sp := by
  obtain ⟨f, fd, F, i, t, b⟩ := D
  exact ⟨f, fd, F.ok S len fun cdv A outer s H vs Q E hr h => hbody f cdv A outer s H vs Q E hr h, i, t, b⟩
/-- TextError.__init__(self, ..): what an own base class hands on -/
structure XBs (K : PySem.W.Frag) (mg : Str → Option Value) (x : Str) (C : Addr) : Prop where
  g : mg x = some (.ref C)
  rd : PySem.W.readsIn K C (.type "type") = true
  ga : PySem.W.specialIn K (.ref C) "__getattribute__" = some (some (.builtin "type.__getattribute__"))
  at_ : PySem.W.findCls K (.ref C) (.type "type") "__init__" = some (.val (.builtin "ValueError.__init__"))
section
variable {X : Cx} {E : XK} {C : Addr} {x m f g : Str} {j : Nat} {p p2 pos pos' : Pos} {e e' : Expr} {es : List Expr} {te te' : TE} {ta : TA} {sp : Sp} {k : Nat} {ps : List Str}
def tRz (C : Addr) (E : XK) : TS := fun _ _ H => E (.ref C) none H
theorem ps_rz (D : XPl X.K X.mg x C) (tk : Takes X (fun cls d _ H => E cls d H)) (hc : X.calm = true := by rfl) (hg : Gl X x := by rfl) (hdb : (x == ("__debug__" : Str)) = false := by decide) : PS X (.Raise (some (.Call (.Name x p) [.Constant (.str m) j p2] [] pos)) none pos') (tRz C E) :=
  ps_raise hc tk (pmk_own PySem.F.excBase_ValueError D.ex D.g D.kp (raises_own D.sub D.ty) hg hdb)
variable {σ : St} {H : Hp} {D : Ends}
end
section
/-- isinstance(e, c), e the exception at a of the class cls, its dict d -/
def rIsX (K : PySem.W.Frag) (cls : Value) (d : Option Addr) (a : Addr) : List V → Hp → VK → Prop := fun xs H Q => ∃ (D : Addr) (c : V) (cv : Value) (b : Bool), cls = .ref D ∧ ExcC K D ∧ (d = none ∨ ∃ dd fs, d = some dd ∧ H dd = some (.xd fs)) ∧ xs = [.ref a, c] ∧ (∀ u, RelV c u → u = cv) ∧ PySem.W.kitOne K (.ref D) cv = some b ∧ Q (.bl b) H
theorem call_isX {X : Cx} {K : PySem.W.Frag} {a : Addr} {cls : Value} {d : Option Addr} {oe : Obj} {pn : List (Addr × Obj)} (hK : X.K = K) (hz : Zc cls d oe) (hf : ∃ vs, oe.data = .fields vs) : CallR (X.suite a ((a, oe) :: pn)) (.builtin "isinstance") (rIsX K cls d a) := by
  subst hK
  intro pins s σ H xs us Q I r h
  obtain ⟨D, c, cv, b, rfl, C, hdd, rfl, hcv, e, q⟩ := h
  match r with
  | .cons rx (.cons rt .nil) =>
    cases rx
    obtain rfl := hcv _ rt
    obtain ⟨hget, _⟩ := I.pin (a, oe) (List.mem_append.mpr (.inl List.mem_cons_self))
    obtain ⟨vs, hv⟩ := hf
    obtain ⟨oc, od, oda, osl⟩ := oe
    obtain ⟨h1, h2⟩ := hz
    dsimp only at h1 h2 hv
    have cl : (PySem.W.clsIn X.K D).isSome = true := by obtain ⟨cd, hc, _⟩ := PySem.W.any_some C.hd; rw [hc]; rfl
    rcases hdd with rfl | ⟨dd, fs, rfl, hx⟩
    · subst h1 h2 hv
      have J : PySem.W.InstAt s.heap a _ D none := ⟨hget, rfl, rfl, trivial⟩
      exact PySem.W.kia_one (PySem.W.kitx_exc cl C.hg C.hk C.hs C.ha C.hn C.ht C.hm) I.kIn J e (fun z => nomatch z) fun tk => ⟨.bl b, H, I.kept (t' := tk) fun _ _ z => z, rfl, q⟩
    · subst h1 h2 hv
      obtain ⟨o', ho', _⟩ : ∃ o', s.heap.get? dd = some o' ∧ True := by
        obtain ⟨u, hu⟩ := objOk_get (I.hok dd _ hx)
        exact ⟨u, hu, trivial⟩
      have J : PySem.W.InstAt s.heap a _ D (some o') := ⟨hget, rfl, rfl, ho'⟩
      exact PySem.W.kia_one (PySem.W.kitx_exc cl C.hg C.hk C.hs C.ha C.hn C.ht C.hm) I.kIn J e (fun z => nomatch z) fun tk => ⟨.bl b, H, I.kept (t' := tk) fun _ _ z => z, rfl, q⟩
variable {K : PySem.W.Frag} {H : Hp} {Q : VK} {D C a : Addr} {d : Option Addr} {b : Bool}
theorem rd_isX (hc : ExcC K D) (hd : d = none ∨ ∃ dd fs, d = some dd ∧ H dd = some (.xd fs)) (e : PySem.W.kitOne K (.ref D) (.ref C) = some b) (q : Q (.bl b) H) : rIsX K (.ref D) d a [.ref a, .ref C] H Q := ⟨D, .ref C, .ref C, b, rfl, hc, hd, rfl, fun u r => r, e, q⟩
theorem rd_isXT {T : String} (hc : ExcC K D) (hd : d = none ∨ ∃ dd fs, d = some dd ∧ H dd = some (.xd fs)) (e : PySem.W.kitOne K (.ref D) (.type T) = some b) (q : Q (.bl b) H) : rIsX K (.ref D) d a [.ref a, .ty T] H Q := ⟨D, .ty T, .type T, b, rfl, hc, hd, rfl, fun u r => r, e, q⟩
/-- e.f -/
def tXf2 (K : PySem.W.Frag) (a : Addr) (cls : Value) (d : Option Addr) (f : Str) (te : TE) : TE := fun σ H Q => te σ H fun x H1 => x = .ref a ∧ ∃ C dd fs v, cls = .ref C ∧ XfC K C ∧ PySem.W.findIn K (.ref C) f = some none ∧ d = some dd ∧ H1 dd = some (.xd fs) ∧ fs.lookup f = some v ∧ Q v H1
theorem pe_xf2 {X : Cx} {K : PySem.W.Frag} {a : Addr} {oe : Obj} {cls : Value} {d : Option Addr} {pn : List (Addr × Obj)} {e : Expr} {te : TE} {pos : Pos} {n : Str} (hK : X.K = K) (hz : Zc cls d oe) (hf : ∃ vs, oe.data = .fields vs) (he : PE (X.suite a ((a, oe) :: pn)) e te)
    (hb : attributeBase e n X.env (eval e X.env) = eval e X.env := by rfl) : PE (X.suite a ((a, oe) :: pn)) (.Attribute e n pos) (tXf2 K a cls d n te) := by
  subst hK
  refine ⟨fun pins s σ H Q I h => ?_⟩
  refine attr_of hb (thn (he.run pins s σ H _ I h) fun u s1 ⟨x, H1, I1, rx, ex, C, dd, fs, v, ec, T, no, ed, hx, hl, q⟩ => ?_)
  subst ex ec ed
  obtain rfl : u = Value.ref a := rx
  obtain ⟨at_, _⟩ := I1.pin (a, oe) (List.mem_append.mpr (.inl List.mem_cons_self))
  obtain ⟨ws, hw⟩ := hf
  have ox : ObjOk X.prog X.w H1 s1.heap dd (.xd fs) := I1.hok dd _ hx
  obtain ⟨mA, ns, rel⟩ := ox
  obtain ⟨od, lo, li⟩ := lookIn_ns ns
  obtain ⟨u, eu, ru⟩ := RelO.some_of (v := v) (o := mA n) (by rw [← hl]; exact rel n)
  have J : PySem.W.InstAt s1.heap a oe C (some od) := ⟨at_, hz.1, by unfold PySem.W.notCls; rw [hw], by rw [hz.2]; exact lo⟩
  exact HandSPX.exc_get I1.kIn J T.ga T.gg T.exC (PySem.W.findObj_own T.hdC no rfl (by rw [li, eu])) (handed_of ru) ⟨v, H1, I1.tok _, ru, q⟩
end
end L2.Px
set_option Elab.async false
set_option linter.all false
set_option maxRecDepth 100000
set_option maxHeartbeats 2000000
namespace L2.Px
open PySem PySem.Spec PyProof.Rows StX ClX LamX
section
variable {K : PySem.W.Frag} {X : Cx} {H : Hp} {Q : VK} {l p : Addr}
/-- xs.count(b), xs a list of bools -/
def rCntB (K : PySem.W.Frag) : V → List V → Hp → VK → Prop := fun x xs H Q => ∃ (p : Addr) (L : List Bool) (c : Bool), x = .ref p ∧ xs = [.bl c] ∧ SqL K H p (L.map V.bl) ∧ Q (.int (L.count c : Nat)) H
theorem dp_bls : ∀ {L : List Bool}, DpAll K H (L.map V.bl) (L.map PyData.bool)
  | [] => .nil
  | b :: L => .cons (.bl b) dp_bls
theorem cnt_bls (c : Bool) : ∀ L : List Bool, countIn (.bool c) (L.map PyData.bool) = ((L.count c : Nat) : Int)
  | [] => rfl
  | b :: L => by
    rw [List.map_cons, countIn, cnt_bls c L, List.count_cons]
    cases b <;> cases c <;> simp [same] <;> omega
theorem mt_bcountK (hk : X.K = K) : MtR X "list.count" (rCntB K) := by
  subst hk
  intro pins s σ H x xs v us Q I rx rxs h
  obtain ⟨p, L, c, rfl, rfl, hs, q⟩ := h
  cases rx
  obtain ⟨u, rfl, rfl⟩ := rxs.one
  obtain ⟨its, rv, hl, _⟩ := I.list hs
  obtain ⟨as, ra⟩ := Dp.readsAll I _ _ _ (dp_bls (L := L)) rv
  refine count_list_bools (k := c) hl.isList ra (by simp [Shape.has]) ?_
  rw [cnt_bls]
  exact ⟨.int _, H, I.tok _, ⟨_, rfl⟩, q⟩
theorem rd_bcount {L : List Bool} {c : Bool} (h : SqL K H l (L.map V.bl)) (q : Q (.int (L.count c : Nat)) H) : rCntB K (.ref l) [.bl c] H Q := ⟨l, L, c, rfl, rfl, h, q⟩
end
/-- e is of the i-th kind of Cs -/
structure RzC (K : PySem.W.Frag) (CT : Addr) (Cs : List Addr) (i : Nat) (D : Addr) : Prop where
  isi : ExcC K D
  exm : PySem.W.exmOne K (.ref D) (.ref CT) = some true
  ve : PySem.W.kitOne K (.ref D) (.type "ValueError") = some true
  kit : ∀ (j : Nat) C, Cs[j]? = some C → PySem.W.kitOne K (.ref D) (.ref C) = some (decide (j = i))
/-- .. and tells a number in its field f -/
structure RzF (K : PySem.W.Frag) (D : Addr) (f : Str) : Prop where
  xf : XfC K D
  no : PySem.W.findIn K (.ref D) f = some none
def rzW : List Str := ["step", "changes", "long", "place", "key", "letter", "number"]
/-- what _law_raised answers of the exception of the class cls, its dict d -/
def RzAns (K : PySem.W.Frag) (CT : Addr) (Cs : List Addr) (cls : Value) (d : Option Addr) (H : Hp) (Q : VK) : Prop := ∃ (i : Nat) (D : Addr) (w : Str), cls = .ref D ∧ RzC K CT Cs i D ∧ rzW[i]? = some w ∧
  ((i < 2 ∧ RzF K D "index" ∧ ∃ (dd : Addr) (n : Int) (fs : List (Str × V)), d = some dd ∧ H dd = some (.xd fs) ∧ fs.lookup ("index" : Str) = some (.int n) ∧ ∀ p H', Same H H' → H' p = some (.tup [.str w, .int n]) → Q (.ref p) H') ∨
    (¬ i < 2 ∧ d = none ∧ ∀ p H', Same H H' → H' p = some (.tup [.str w]) → Q (.ref p) H'))
theorem RzAns.dict {K : PySem.W.Frag} {CT : Addr} {Cs : List Addr} {cls : Value} {d : Option Addr} {H : Hp} {Q : VK} (h : RzAns K CT Cs cls d H Q) : d = none ∨ ∃ dd fs, d = some dd ∧ H dd = some (.xd fs) := by
  obtain ⟨i, D, w, _, _, _, ⟨_, _, dd, n, fs, e, hx, _⟩ | ⟨_, e, _⟩⟩ := h
  · exact .inr ⟨dd, fs, e, hx⟩
  · exact .inl e
section
variable {K : PySem.W.Frag} {H : Hp} {Q : VK} {l : Addr}
theorem rd_addSame {xs ys : List V} {a b : Addr} (ha : H a = some (.lst xs)) (hb : H b = some (.lst ys)) (hz : xs.length + ys.length ≤ sizeLine) (q : ∀ p H', Same H H' → H p = none → H' p = some (.lst (xs ++ ys)) → Q (.ref p) H') : rAddA K (.ref a) (.ref b) H Q :=
  rd_add_lst ha hb hz fun p hp => q p _ (Same.new (Same.refl _) hp) hp upd_same
end
end L2.Px
set_option Elab.async false
set_option linter.all false
set_option maxRecDepth 100000
set_option maxHeartbeats 1000000
namespace L2.Px
open PySem PySem.Spec PyProof.Rows StX ClX LamX
/-- the tables of all defs of the top are empty -/
def AllTab (q : Program) (K : PySem.W.Frag) (mg : Str → Option Value) (h : Heap) : Prop := ∀ (x : Str) (f : Addr), ((recsOf q).any fun e => e.name == x) = true → mg x = some (.ref f) → OwnTab K f h
theorem walk_ofT {l : PySem.W.OpenLaw} {n k : Nat} {q : Program} {loose : List Str} {XP : (Str → Option Value) → Heap → Prop} {YP : World → Heap → Prop} {d : DefRec} {K : Params → PySem.W.Frag} {x : Str}
    (hn : l.most = some n) (hn2 : n ≤ sizeLine) (hdf : d.params.defaults = []) (hr : Room k callerA) (hY : ∀ (w : World) (h : Heap), YP w h → (K w.params).In h)
    (F : ∀ (w : World) (mg : Str → Option Value) (fa : Addr) (h : Heap), (K w.params).In h → h.Ns mainGlobals mg → XP mg h → mg d.name = some (.ref fa) → AllTab q (K w.params) mg h → LawAtS l w (K w.params) CX0 k n x mg fa h) :
    PySem.W.WalkO q loose XP YP l.row.toRowW d [] (fun f vs => PySem.call f vs) := by
  refine Att.attach_callB hn hdf fun w s0 s1 mg mb fa o pm cd doc a vs ns G Y ho hd hcd hmg hobj hints hlen hbits hg => ?_
  have KX := hY w _ Y
  have tabs : AllTab q (K w.params) mg s1.heap := fun y f hy hf c P o1 fd1 e dd ws sl k1 k2 k3 k4 k5 => by
    obtain ⟨dL, hm, hq⟩ := List.any_eq_true.mp hy
    obtain ⟨a', o', fd', c', P', h1, h2, h3, h4, h5, ⟨oc, vc, e1, _, e3, e4⟩, hP⟩ := G.T.tab dL hm
    rw [beq_iff_eq.mp hq, hf] at h1
    cases h1
    cases (KX _ _ k1).symm.trans h2
    cases k2.symm.trans h3
    cases k3.symm.trans h4
    cases (KX _ _ k4).symm.trans e1
    cases e3
    cases k5.symm.trans e4
    exact hP
  obtain ⟨fd, cs, sp, hT, nT, C, hb, hsp, hF⟩ := F w mg fa _ KX G.T.g G.X hmg tabs
  exact law_callTs KX G.T.g G.T.b G.T.builtins G.T.nolimit hg hT nT C G.T.bmain hobj hints (Nat.le_trans hlen hn2) hr hF hb (fun H hH hS => hsp H a ns hlen hbits hH hS) fun _ _ _ z => z
section
variable {K : PySem.W.Frag} {h : Heap} {mg : Str → Option Value} {x qual : Str} {st : Stmt} {ps : List Str} {f c P : Addr} {q : Program}
/-- the def object at f, its code object at c -/
def AtC (K : PySem.W.Frag) (x qual : Str) (st : Stmt) (c f : Addr) : Prop := ∃ (oc : Value) (od : Option Addr) (kV dc pm : Value) (an : Option Addr) (ct : Value) (sl : Array (Option Value)), K.lookup f = some ⟨oc, od, .func (PySem.W.fnOf x qual (defArgs st) (defBody st) (defScope st) .none kV dc pm an (.ref c) ct), sl⟩ ∧ PySem.W.codeIn K (.ref c) qual = true
theorem atC {oc : Value} {od : Option Addr} {kV dc pm : Value} {an : Option Addr} {ct : Value} {sl : Array (Option Value)} (l : K.lookup f = some ⟨oc, od, .func (PySem.W.fnOf x qual (defArgs st) (defBody st) (defScope st) .none kV dc pm an (.ref c) ct), sl⟩) (hc : PySem.W.codeIn K (.ref c) qual = true) : AtC K x qual st c f := ⟨oc, od, kV, dc, pm, an, ct, sl, l, hc⟩
theorem defGC_mk (X : K.In h) (G : h.Ns mainGlobals mg) (a : PySem.W.nsIn K mainGlobals x = some (some (.ref f))) (l : AtC K x x st c f) (k : PySem.W.keepIn K (.ref f) = true) (b : BF x x st ps) : DefGC K mg x st ps c := by
  obtain ⟨oc, od, kV, dc, pm, an, ct, sl, l, hc⟩ := l
  exact ⟨f, _, ⟨⟨oc, od, kV, dc, pm, an, ct, sl, rfl, l, hc⟩, k⟩, PySem.W.mg_of X G a, fun s us _ hl => .of_eq (by rw [List.append_nil] at *; exact b kV dc pm an (.ref c) ct us (by simpa using hl))⟩
/-- the code object at c has its table at P, outside K -/
structure TabC (K : PySem.W.Frag) (c P : Addr) : Prop where
  hd : PySem.W.codeHdIn K c P = true
  no : K.lookup P = none
  at_ : ∃ (e : Value) (dd : Option Addr) (vs : Array Value) (sl : Array (Option Value)), K.lookup c = some ⟨e, dd, .fields vs, sl⟩ ∧ vs[11]? = some (.ref P)
theorem tabC_mk {e : Value} {dd : Option Addr} {vs : Array Value} {sl : Array (Option Value)} (l : K.lookup c = some ⟨e, dd, .fields vs, sl⟩) (v : vs[11]? = some (.ref P)) (hd : PySem.W.codeHdIn K c P = true) (no : K.lookup P = none) : TabC K c P := ⟨hd, no, e, dd, vs, sl, l, v⟩
theorem TabC.empty (t : TabC K c P) (A : AllTab q K mg h) (D : DefGC K mg x st ps c) (hx : ((recsOf q).any fun e => e.name == x) = true) : h.get? P = some { cls := .none, data := .fields #[] } := by
  obtain ⟨f, fd, F, hm, _⟩ := D
  obtain ⟨oc, od, kV, doc, pm, an, ct, osl, rfl, lk, _⟩ := F.ex
  obtain ⟨e, dd, vs, sl, l, v⟩ := t.at_
  exact A x f hx hm c P _ _ e dd vs sl lk rfl rfl l v
end
end L2.Px
set_option Elab.async false
set_option linter.all false
set_option maxRecDepth 100000
set_option maxHeartbeats 1000000
namespace L2.Px
open PySem PySem.Spec PyProof.Rows StX TL
/-- how often k stands ahead of place p -/
def cn (ss : List Stp) (p k : Nat) : Nat := ((ks ss).take p).count k
/-- .. of all keys -/
def cnt (ss : List Stp) (p : Nat) : List Nat := (List.range (tyL ss).length).map (cn ss p)
theorem count_take_split (l : List Nat) (k : Nat) {a b : Nat} (h : a ≤ b) : (l.take b).count k = (l.take a).count k + ((l.drop a).take (b - a)).count k := by
  have e : l.take b = l.take a ++ (l.drop a).take (b - a) := by
    have := List.take_add (l := l) (i := a) (j := b - a)
    rw [show a + (b - a) = b by omega] at this
    exact this
  rw [e, List.count_append]
theorem cn_mono (ss : List Stp) (k : Nat) {a b : Nat} (h : a ≤ b) : cn ss a k ≤ cn ss b k := by
  unfold cn; rw [count_take_split _ _ h]; omega
theorem cn_succ {ss : List Stp} (ok : okFrom 0 ss) {p : Nat} (h : p < sz ss) (k : Nat) : cn ss (p + 1) k = cn ss p k + if kat ss p = k then 1 else 0 := by
  unfold cn
  rw [List.take_add_one, kat_some ok h, List.count_append]
  simp [List.count_cons, beq_iff_eq]
end L2.Px
set_option Elab.async false
set_option linter.all false
set_option maxRecDepth 100000
set_option maxHeartbeats 1000000
namespace L2.Px
open PySem PySem.Spec PyProof.Rows StX TL
/-- a walk of n turns whose i-th item is a new tuple of it i -/
structure Pairy (J : It) (n : Nat) (it : Nat → List V) (H1 : Hp) : Prop where
  stop : ∀ H, Same H1 H → J.stop n H
  go : ∀ i H, Same H1 H → i < n → J.go i H
  yld : ∀ i H x H', Same H1 H → i < n → J.yld i H x H' → ∃ T, H T = none ∧ H' = upd H T (.tup (it i)) ∧ x = .ref T
/-- for a, b in .. -/
theorem for_pair {J : It} {n : Nat} {it : Nat → List V} {g : TG} {tb : TS} {D : Ends} {σ : St} {H : Hp} (Pv : Nat → St → Hp → Prop) (h0 : Pv 0 σ H) (hl : ∀ i σ H, i ≤ n → Pv i σ H → Pairy J n it H)
    (hs : ∀ i T σ H, i < n → Pv i σ H → H T = none → g (.ref T) σ (upd H T (.tup (it i))) fun σ2 H2 => tb { D with nx := Pv (i + 1), ct := Pv (i + 1), bk := D.nx } σ2 H2) (hd : ∀ σ H, Pv n σ H → D.nx σ H) : ForW J g tb D σ H := by
  refine ⟨fun i m σ H => m = n - i ∧ i ≤ n ∧ Pv i σ H, ⟨n, by simp, Nat.zero_le _, h0⟩, ?_⟩
  rintro i m σ H ⟨rfl, hi, p⟩
  have q := hl i σ H hi p
  by_cases hlt : i < n
  · refine .inr ⟨q.go i H (Same.refl _) hlt, Pv (i + 1), fun σ' H' p' => ⟨n - (i + 1), by omega, rfl, hlt, p'⟩, fun x H' y => ?_⟩
    obtain ⟨T, hT, e1, e2⟩ := q.yld i H x H' (Same.refl _) hlt y
    subst e1 e2
    exact hs i T σ H hlt p hT
  · have e : i = n := by omega
    subst e
    exact .inl ⟨q.stop H (Same.refl _), hd σ H p⟩
end L2.Px
set_option Elab.async false
set_option linter.all false
set_option maxRecDepth 100000
set_option maxHeartbeats 1000000
namespace L2.Px
open PySem PySem.Spec PyProof.Rows StX TL
theorem nodup_len {α : Type} [DecidableEq α] : ∀ {l m : List α}, l.Nodup → (∀ x ∈ l, x ∈ m) → l.length ≤ m.length
  | [], m, _, _ => Nat.zero_le _
  | x :: l, m, h, hs => by
    obtain ⟨h1, h2⟩ := List.nodup_cons.mp h
    have hx := hs x List.mem_cons_self
    have := nodup_len (l := l) (m := m.erase x) h2 fun y hy => by
      have hne : y ≠ x := fun z => h1 (z ▸ hy)
      exact (List.mem_erase_of_ne hne).mpr (hs y (List.mem_cons_of_mem _ hy))
    rw [List.length_erase_of_mem hx] at this
    have := List.length_pos_of_mem hx
    simp only [List.length_cons]
    omega
def cs1 (ss : List Stp) (j : Nat) : List Nat := match ss[j]? with
  | some (.pa f l _) => [sz (ss.take j), f, l + 1]
  | _ => [sz (ss.take j)]
def consts (ss : List Stp) : List Nat := 0 :: (List.range ss.length).flatMap (cs1 ss)
def phi (ss : List Stp) (x : Nat) : Nat := match (List.range ss.length).find? (fun j => decide (sz (ss.take j) < x ∧ x ≤ sz (ss.take (j + 1)))) with
  | some j => (match ss[j]? with
    | some (.pa f l _) => f + (x - sz (ss.take j)) % (l - f + 1)
    | _ => 0)
  | none => 0
def itn (ss : List Stp) : Nat → Nat → Nat
  | 0, x => x
  | i + 1, x => phi ss (itn ss i x)
def Reach (ss : List Stp) (qs : List Nat) (x n : Nat) : Prop := ∃ c ∈ consts ss ++ qs, ∃ i, i + n ≤ 31 ∧ x = itn ss i c
def reachL (ss : List Stp) (qs : List Nat) : List Nat := (consts ss ++ qs).flatMap fun c => (List.range 32).map fun i => itn ss i c
theorem Reach.mem {ss : List Stp} {qs : List Nat} {x n : Nat} (h : Reach ss qs x n) : x ∈ reachL ss qs := by
  obtain ⟨c, hc, i, hi, rfl⟩ := h
  exact List.mem_flatMap.mpr ⟨c, hc, List.mem_map.mpr ⟨i, List.mem_range.mpr (by omega), rfl⟩⟩
def counterF (a d : Addr) : List (Str × V) := putF "known" (.ref d) (putF "text" (.ref a) [])
theorem counterF_no {a d : Addr} {x : Str} (h : x ≠ "known" ∧ x ≠ "text") : (counterF a d).lookup x = none := by
  unfold counterF; rw [lookup_putF, if_neg h.1, lookup_putF, if_neg h.2]; rfl
/-- what is remembered: for places, the counts ahead of them -/
structure Known (H : Hp) (d : Addr) (ss : List Stp) (qs : List Nat) (av : Addr → Prop) : Prop where
  ex : ∃ kvs : List (Key × V), H d = some (.dK kvs) ∧ (kvs.map (·.1)).Nodup ∧ (∃ v, valV kvs (Sum.inl 0 : Key) = some v) ∧
    ∀ kv ∈ kvs, ∃ (x : Nat) (l : Addr), kv = (Sum.inl (x : Int), V.ref l) ∧ x ∈ reachL ss qs ∧ H l = some (.lst (natV (cnt ss x))) ∧ ¬ av l
structure CtAt (K : PySem.W.Frag) (CT CP CC : Addr) (H : Hp) (c a d : Addr) (ss : List Stp) (qs : List Nat) (av : Addr → Prop) : Prop where
  ins : ∃ dx, H c = some (.ins CC dx (counterF a d))
  tx : TX K CT CP H a ss
  kn : Known H d ss qs av
  few : qs.length ≤ 10000
section
variable {K : PySem.W.Frag} {CT CP CC : Addr} {H H' : Hp} {Q : VK} {E : XK} {c a d l : Addr} {ss : List Stp} {qs : List Nat} {q x : Nat} {kvs : List (Key × V)} {av : Addr → Prop}
/-- all but the dict d -/
theorem but_txt {t : TxI} (e : But d H H') (hd : H d = some (.dK kvs)) (h : TextAt K CT CP H a t) : TextAt K CT CP H' a t := by
  have ne : ∀ {b o}, (∀ k, o ≠ HO.dK k) → H b = some o → H' b = some o := fun {b o} ho hb => e b o (fun z => by subst z; rw [hd] at hb; cases hb; exact ho _ rfl) hb
  have f : Free1 H d := ⟨fun xs z => (by rw [hd] at z; cases z), fun o u z => (by rw [hd] at z; cases z)⟩
  exact ⟨ne (fun k z => by cases z) h.ins, e.tup f h.made, e.steps f h.stp, ne (fun k z => by cases z) h.pls, PartsAt.but e (fun dx fs z => by rw [hd] at z; cases z) h.prt, h.ok, h.few⟩
theorem TX.but (h : TX K CT CP H a ss) (e : But d H H') (hd : H d = some (.dK kvs)) : TX K CT CP H' a ss := let ⟨t, T, q⟩ := h; ⟨t, but_txt e hd T, q⟩
theorem but_lst {xs : List V} (e : But d H H') (hd : H d = some (.dK kvs)) (h : H l = some (.lst xs)) : H' l = some (.lst xs) := e _ _ (fun z => by subst z; rw [hd] at h; cases h) h
theorem CtAt.mono (h : CtAt K CT CP CC H c a d ss qs av) (e : Same H H') : CtAt K CT CP CC H' c a d ss qs av := by
  obtain ⟨⟨dx, h1⟩, h2, ⟨kvs, k1, k2, k3, k4⟩, h4⟩ := h
  exact ⟨⟨dx, e _ _ h1⟩, h2.kp (Kp.same e), ⟨kvs, e _ _ k1, k2, k3, fun kv hkv => let ⟨x, l, a, b, c⟩ := k4 kv hkv; ⟨x, l, a, b, e _ _ c.1, c.2⟩⟩, h4⟩
/-- one more place is remembered -/
theorem CtAt.put (h : CtAt K CT CP CC H c a d ss qs av) (hd : H d = some (.dK kvs)) (hn : valV kvs (Sum.inl (x : Int) : Key) = none) (hx : x ∈ reachL ss qs) (hl : H l = some (.lst (natV (cnt ss x)))) (hv : ¬ av l) :
    CtAt K CT CP CC (upd H d (.dK (putK kvs (Sum.inl (x : Int)) (.ref l)))) c a d ss qs av := by
  have B : But d H (upd H d (.dK (putK kvs (Sum.inl (x : Int)) (.ref l)))) := But.at But.refl
  obtain ⟨⟨dx, h1⟩, h2, ⟨kvs', k1, k2, ⟨v, k3⟩, k4⟩, h4⟩ := h
  rw [hd] at k1; cases k1
  refine ⟨⟨dx, B _ _ (fun z => by subst z; rw [hd] at h1; cases h1) h1⟩, h2.but B hd, ⟨_, upd_same, nd_putK _ k2 hn, ?_, fun kv hkv => ?_⟩, h4⟩
  · rw [valV_put]
    split
    · exact ⟨_, rfl⟩
    · exact ⟨v, k3⟩
  · rw [putK_new _ hn] at hkv
    rcases List.mem_append.mp hkv with hkv | hkv
    · obtain ⟨x', l', e1, e2, e3⟩ := k4 kv hkv
      exact ⟨x', l', e1, e2, but_lst B hd e3.1, e3.2⟩
    · cases List.mem_singleton.mp hkv
      exact ⟨x, l, rfl, hx, but_lst B hd hl, hv⟩
theorem Known.get (h : Known H d ss qs av) (hd : H d = some (.dK kvs)) {v : V} (hv : valV kvs (Sum.inl (x : Int) : Key) = some v) : ∃ l, v = .ref l ∧ H l = some (.lst (natV (cnt ss x))) := by
  obtain ⟨kvs', k1, k2, k3, k4⟩ := h
  rw [hd] at k1; cases k1
  unfold valV at hv
  obtain ⟨kv, h1, rfl⟩ := Option.map_eq_some_iff.mp hv
  have h2 := List.find?_some h1
  obtain ⟨x', l, e1, _, e2, _⟩ := k4 kv (List.mem_of_find?_eq_some h1)
  have h3 : kv.1 = Sum.inl (x : Int) := of_decide_eq_true h2
  subst e1
  have : x' = x := by
    have : (x' : Int) = x := Sum.inl.inj h3
    omega
  subst this
  exact ⟨l, rfl, e2⟩
variable (K CT CP CC)
end
end L2.Px
set_option Elab.async false
set_option linter.all false
set_option maxRecDepth 100000
set_option maxHeartbeats 1000000
namespace L2.Px
open PySem PySem.Spec PyProof.Rows StX TL
section
variable {X : Cx} {K : PySem.W.Frag} {ta : TA} {e e2 : Expr} {p pos tpos : Pos} {elts : List Expr} {kk : Nat}
variable {σ : St} {H : Hp} {Rr : It → Hp → Prop} {a b : Addr} {xs ys : List V}
variable {td ty tv te : TE} {nx ct bk : St → Hp → Prop} {rt : VK} {tc : TE} {R : Bool → Hp → Prop} {Q : VK}
theorem rd_dget (h : td σ H fun x H1 => ty σ H1 fun y H2 => ∃ a v, x = .ref a ∧ DGet H2 a y (some v) ∧ Q v H2) : tDGet td ty σ H Q := h
theorem rd_dput (h : tv σ H fun v H1 => td σ H1 fun x H2 => ty σ H2 fun y H3 => ∃ a H4, x = .ref a ∧ DPut H3 a y v H4 ∧ nx σ H4) : sDPut td ty tv ⟨nx, rt, bk, ct⟩ σ H := h
theorem rd_dnotin (h : ty σ H fun y H1 => td σ H1 fun x H2 => ∃ a o, x = .ref a ∧ DGet H2 a y o ∧ Q (.bl (!o.isSome)) H2) : tDNotIn ty td σ H Q := h
theorem rd_din (h : ty σ H fun y H1 => td σ H1 fun x H2 => ∃ a o, x = .ref a ∧ DGet H2 a y o ∧ Q (.bl o.isSome) H2) : tDIn ty td σ H Q := h
theorem rd_par3 {i j l : Nat} (h : ta σ H fun vs H1 => ∃ v w u, vs = [v, w, u] ∧ nx (((σ.set i (some v)).set j (some w)).set l (some u)) H1) : tPar3 i j l ta ⟨nx, rt, bk, ct⟩ σ H := h
end
section
variable {K : PySem.W.Frag} {CT CP CC : Addr} {H H' : Hp} {a c d x : Addr} {ss : List Stp} {qs : List Nat} {dx : Addr} {fs : List (Str × V)} {av : Addr → Prop}
theorem but_any {kvs : List (Key × V)} {b : Addr} {o : HO} (e : But d H H') (hd : H d = some (.dK kvs)) (h : H b = some o) (no : ∀ k, o ≠ .dK k) : H' b = some o := e _ _ (fun z => by subst z; rw [hd] at h; cases h; exact no _ rfl) h
theorem ixN_natx {n j : Nat} (hj : j < n) : ixN n (j : Int) = some j := by
  unfold ixN
  rw [if_pos (by omega), if_pos (by omega)]
  simp
theorem CtAt.dk {qs : List Nat} (h : CtAt K CT CP CC H c a d ss qs av) : ∃ kvs, H d = some (.dK kvs) := let ⟨kvs, e, _⟩ := h.kn.ex; ⟨kvs, e⟩
/-- counters where all but the dict stands as it stood, and what is remembered avoids av -/
theorem CtAt.re {qs qs' : List Nat} {av' : Addr → Prop} (h : CtAt K CT CP CC H c a d ss qs av) (e : But d H H') (k : Known H' d ss qs' av') (hq : qs'.length ≤ 10000) : CtAt K CT CP CC H' c a d ss qs' av' := by
  obtain ⟨kvs, hd⟩ := h.dk
  obtain ⟨dx, hc⟩ := h.ins
  exact ⟨⟨dx, but_any e hd hc (fun k z => by cases z)⟩, h.tx.but e hd, k, hq⟩
/-- what is remembered does not stand at D -/
theorem Known.upd {qs : List Nat} {D : Addr} {o : HO} (k : Known H d ss qs av) (hD : av D) (hd : D ≠ d) : Known (upd H D o) d ss qs av := by
  obtain ⟨kvs, k1, k2, k3, k4⟩ := k
  refine ⟨kvs, by rw [upd_ne (Ne.symm hd)]; exact k1, k2, k3, fun kv hkv => ?_⟩
  obtain ⟨x, l, e1, e2, e3, e4⟩ := k4 kv hkv
  exact ⟨x, l, e1, e2, by rw [upd_ne (fun z => e4 (by rw [z]; exact hD))]; exact e3, e4⟩
/-- a new address is avoided -/
theorem Known.fresh {qs : List Nat} {D : Addr} (k : Known H d ss qs av) (hD : H D = none) : Known H d ss qs (fun b => b = D ∨ av b) := by
  obtain ⟨kvs, k1, k2, k3, k4⟩ := k
  refine ⟨kvs, k1, k2, k3, fun kv hkv => ?_⟩
  obtain ⟨x, l, e1, e2, e3, e4⟩ := k4 kv hkv
  exact ⟨x, l, e1, e2, e3, fun z => z.elim (fun z => by subst z; rw [hD] at e3; cases e3) e4⟩
end
end L2.Px
set_option Elab.async false
set_option linter.all false
set_option maxRecDepth 100000
set_option maxHeartbeats 1000000
namespace L2.Px
open PySem PySem.Spec PyProof.Rows StX TL
/-- how often one of the keys stands ahead of p -/
def tot (ss : List Stp) (keys : List Nat) (p : Nat) : Nat := (keys.map (cn ss p)).sum
theorem tot_mono (ss : List Stp) (keys : List Nat) {a b : Nat} (h : a ≤ b) : tot ss keys a ≤ tot ss keys b := by
  unfold tot
  induction keys with
  | nil => simp
  | cons k r ih => simp only [List.map_cons, List.sum_cons]; have := cn_mono ss k h; omega
/-- p is the place at which one of the keys stands for the time n -/
def IsNth (ss : List Stp) (keys : List Nat) (n p : Nat) : Prop := p < sz ss ∧ tot ss keys p ≤ n ∧ n < tot ss keys (p + 1)
section
variable {K : PySem.W.Frag} {CT CP CC : Addr} {H H' H1 : Hp} {Q : VK} {E : XK} {c a d l D : Addr} {ss : List Stp} {qs : List Nat} {av : Addr → Prop} {L : List Nat} {o : HO}
theorem natV_ints (L : List Nat) : natV L = (L.map fun m => ((m : Nat) : Int)).map V.int := by unfold natV; rw [List.map_map]; rfl
theorem but_put (e : But d H1 H) (hD : H1 D = none) : But d H1 (upd H D o) := fun b u hb h => by rw [upd_ne (ne_of_none h hD)]; exact e b u hb h
/-- throughout a comprehension that asks the counter -/
def Asks (H1 : Hp) (d D : Addr) (ss : List Stp) (qs : List Nat) (av : Addr → Prop) (H : Hp) : Prop := But d H1 H ∧ Known H d ss qs (fun b => b = D ∨ av b)
theorem Asks.put (ct : CtAt K CT CP CC H1 c a d ss qs av) (hD : H1 D = none) (h : Asks H1 d D ss qs av H) : Asks H1 d D ss qs av (upd H D o) := by
  obtain ⟨kvs, hd⟩ := ct.dk
  have nd : D ≠ d := fun z => by subst z; rw [hd] at hD; cases hD
  exact ⟨but_put h.1 hD, h.2.upd (.inl rfl) nd⟩
theorem Asks.ct (ct : CtAt K CT CP CC H1 c a d ss qs av) (h : Asks H1 d D ss qs av H) : CtAt K CT CP CC H c a d ss qs (fun b => b = D ∨ av b) := ct.re h.1 h.2 ct.few
variable (K CT CP CC)
end
end L2.Px
set_option Elab.async false
set_option linter.all false
set_option maxRecDepth 100000
set_option maxHeartbeats 1000000
namespace L2.Px
open PySem PySem.Spec PyProof.Rows StX TL
section
variable {K : PySem.W.Frag} {CT CP CC : Addr} {H H' H1 : Hp} {Q : VK} {E : XK} {c a d l D : Addr} {ss : List Stp} {qs : List Nat} {av : Addr → Prop} {i lo hi : Int}
theorem rd_isIntT (h : lo ≤ i ∧ i ≤ hi) (q : Q (.bl true) H) : sp_is_integer [.int i, .int lo, .int hi] H Q E := ⟨_, _, _, rfl, trivial, by rw [show isInt lo hi (.int i) = true from decide_eq_true h]; exact q⟩
theorem CtAt.insM {m : Str} (h : CtAt K CT CP CC H c a d ss qs av) (hm : m ≠ "known" ∧ m ≠ "text" := by decide +kernel) : InsM H c CC m := let ⟨dx, e⟩ := h.ins; ⟨dx, _, e, counterF_no hm⟩
variable (K CT CP)
end
end L2.Px
set_option Elab.async false
set_option linter.all false
set_option maxRecDepth 100000
set_option maxHeartbeats 1000000
namespace PySem
open Sem (wp)
end PySem
namespace L2.Px
open PySem PySem.Spec PyProof.Rows StX TL
end L2.Px
set_option Elab.async false
set_option linter.all false
set_option maxRecDepth 100000
set_option maxHeartbeats 1000000
namespace L2.Px
open PySem PySem.Spec PyProof.Rows StX TL
/-- the generator def named x keeps the promise sp -/
def GenOk (P : Program) (w : World) (K : PySem.W.Frag) (mg : Str → Option Value) (base : Heap) (k : Nat) (x : Str) (sp : SpG) : Prop :=
  ∃ f fd ps, GFn P w K mg base k f fd ps sp ∧ mg x = some (.ref f) ∧ PySem.W.keepIn K (.ref f) = true ∧ Binds K fd ps []
def NoX : XK := fun _ _ _ => False
section
variable {P : Program} {w : World} {K : PySem.W.Frag} {mg : Str → Option Value} {base : Heap} {k : Nat} {ps : List Str} {sp : SpG} {x : Str} {st : Stmt}
theorem DefG.gen {N : List Str} (D : DefG K mg x st ps) (S : GScope N ps (defScope st)) (len : ∀ vs H Q E, sp vs H Q E → vs.length = ps.length)
    (hbody : ∀ (f : Addr) (cdv : Value) (A : Around) (outer : List Env) (s : Shared) (H : Hp) (vs : List V) (Q : List V → Hp → Prop) (E : XK) (pn : List (Addr × Obj)), Room k (A.deeper (envOfC x (defScope st) s.heap.objs.size f cdv)) → sp vs H Q E →
      ∃ t, GSs (gcxOf P w K mg base N x (defScope st) f cdv A outer s H E pn) (defBody st) t ∧ t { nx := fun ys _ H' => Q ys H', rt := fun ys v H' => v = .non ∧ Q ys H' } [] (start N vs) H) : GenOk P w K mg base (k + 1) x sp := by
  obtain ⟨f, fd, F, a, b⟩ := D
  have kp := F.kp
  obtain ⟨oc, od, kV, doc, pm, an, cdv, ct, osl, rfl, lk, hcd⟩ := F.ex
  exact ⟨f, _, ps, gfn_of lk hcd S len fun A outer s H vs Q E pn hr h => hbody f cdv A outer s H vs Q E pn hr h, a, kp, b⟩
end
/-- the places of k from f on, at most 100 -/
structure IsPl (ss : List Stp) (k f : Nat) (L : List Nat) : Prop where
  le : L.length ≤ 100
  nth : ∀ j, j < L.length → IsNth ss [k] (cn ss f k + j) (L[j]?.getD 0)
  all : L.length = 100 ∨ cn ss (sz ss) k ≤ cn ss f k + L.length
theorem tot_one (ss : List Stp) (k p : Nat) : tot ss [k] p = cn ss p k := by simp [tot]
end L2.Px
set_option Elab.async false
set_option linter.all false
set_option maxRecDepth 100000
set_option maxHeartbeats 1000000
namespace L2.Px
open PySem PySem.Spec PyProof.Rows StX TL
end L2.Px
set_option Elab.async false
set_option linter.all false
set_option maxRecDepth 100000
set_option maxHeartbeats 1000000
namespace L2.Px
open PySem PySem.Spec PyProof.Rows StX TL
section
variable {wi : TI} {g : TG} {tt : TT} {tk tv : TE} {ws : List Nat} {σ : St} {H : Hp} {Q : VK}
def DcW (J : It) (g : TG) (tt : TT) (tk tv : TE) (vs : List Nat) (σ : St) (H1 : Hp) (D : Addr) (Qd : Hp → Prop) : Prop := ∃ W : Nat → Nat → Hp → Prop, (∃ m, W 0 m (upd H1 D (.dK []))) ∧ ∀ i m H, W i m H →
  (J.stop i H ∧ Qd H) ∨ (J.go i H ∧ ∃ Nx : Hp → Prop, (∀ H', Nx H' → ∃ m', m' < m ∧ W (i + 1) m' H') ∧ ∀ x H', J.yld i H x H' → g x (wipe σ vs) H' fun σ2 H2 => wipe σ2 vs = wipe σ vs ∧ tt σ2 H2 fun b H3 =>
    if b = true then tk σ2 H3 fun y H4 => tv σ2 H4 fun z H5 => ∃ kvs k, y = kV k ∧ H5 D = some (.dK kvs) ∧ kvs.length < sizeLine ∧ Nx (upd H5 D (.dK (putK kvs k z))) else Nx H3)
theorem rd_dc (h : wi σ H fun J H1 => ∀ D, H1 D = none → DcW J g tt tk tv ws σ H1 D fun H' => Q (.ref D) H') : tDc wi g tt tk tv ws σ H Q := h
theorem rd_dget2 {td ty tx : TE} (h : td σ H fun x H1 => ∃ a, x = .ref a ∧ IsD H1 a ∧ ty σ H1 fun y H2 => tx σ H2 fun z H3 => ∃ o, DGet H3 a y o ∧ Q (o.getD z) H3) : tDGet2 td ty tx σ H Q := h
end
end L2.Px
set_option Elab.async false
set_option linter.all false
set_option maxRecDepth 100000
set_option maxHeartbeats 1000000
namespace L2.Px
open PySem PySem.Spec PyProof.Rows StX TL
/-- the text x, each sign in a new pair -/
def Ites (x : Str) : It :=
  ⟨fun i _ => i < x.cps.size, fun i H v H' => ∃ T c, v = .ref T ∧ H T = none ∧ H' = upd H T (.tup [.int (i : Nat), .str ⟨#[c]⟩]) ∧ x.cps[i]? = some c, fun i _ => i = x.cps.size⟩
theorem turn_es {P : Program} {w : World} {K : PySem.W.Frag} {elts : List Expr} {kk : Nat} {tpos : Pos} {x : Str} {t : Tok} (e it : Addr) :
    Turn P w K (.Tuple elts kk tpos) (Ites x) [e, it] e (fun i h => (∃ old, IsEnum h e it ((i : Nat) : Int) old) ∧ h.IsStrIter it (strIterType x) x t i ∧ e ≠ it) where
  mem := by simp
  obj := fun i h st b hb => by
    obtain ⟨⟨old, he⟩, ⟨o, ho, hc, hd⟩, _⟩ := st
    have e' : b = e ∨ b = it := by simpa using hb
    rcases e' with z | z
    · rw [z]; exact ⟨_, he, fun v q => nomatch q⟩
    · rw [z]; exact ⟨o, ho, fun v q => by rw [hd] at q; cases q⟩
  keep := fun i h h' st k => let ⟨⟨old, he⟩, ⟨o, ho, r⟩, hne⟩ := st; ⟨⟨old, k e (by simp) _ he⟩, ⟨o, k it (by simp) _ ho, r⟩, hne⟩
  item := by
    intro X hP hw hK hc i pins s σ H E I hf st hg
    subst hP hw hK
    obtain ⟨⟨old, he⟩, hit, hne⟩ := st
    have hel : e < s.heap.objs.size := Heap.lt_size he
    have hil : it < s.heap.objs.size := by obtain ⟨_, q, _⟩ := hit; exact Heap.lt_size q
    have hh : X.A.handled = none := I.ok.hd hc
    refine wpAny_pyNext_enum_itemD (Draws.text (A := X.A.in1) hh it x t) he hit hg hne (by simp [hne]) fun u' h' tk hu' ho hit' hT hsz hk => ?_
    obtain ⟨c, u, hcx, rfl⟩ := hu'
    refine ⟨_, rfl, wpAny_letOwnedTupleGo_enum (s := { s with heap := h', toks := tk + 1 }) ho fun h'' he' sb => ?_⟩
    have hT2 : h''.get? s.heap.objs.size = some { cls := .type "tuple", data := .seq #[.int i tk, .str ⟨#[c]⟩ u] } := (sb.2 _ (Nat.ne_of_gt hel)).trans hT
    have new : ObjOk X.prog X.w (upd H s.heap.objs.size (.tup [.int (i : Nat), .str ⟨#[c]⟩])) h'' s.heap.objs.size (.tup [.int (i : Nat), .str ⟨#[c]⟩]) :=
      ⟨by show 2 ≤ sizeLine; decide, [.int i tk, .str ⟨#[c]⟩ u], .cons ⟨_, rfl⟩ (.cons ⟨_, rfl⟩ .nil), ⟨_, hT2, rfl, _, rfl⟩⟩
    have I1 : Inv X pins σ (upd H s.heap.objs.size (.tup [.int (i : Nat), .str ⟨#[c]⟩])) { s with heap := h'', toks := tk + 1 } :=
      I.turnedNew (ch := [e, it]) (fun b ob hb q => (sb.2 b (fun z => hb (by simp [z]))).trans (hk b ob (fun z => hb (by simp [z])) (fun z => hb (by simp [z])) q)) hf (Nat.le_refl _) new
    refine ⟨.ref s.heap.objs.size, _, I1, rfl, ⟨_, c, rfl, I.hok.fresh (Nat.le_refl _), rfl, hcx⟩, ⟨⟨.str ⟨#[c]⟩ u, ?_⟩, ?_, hne⟩, fun b hb => ?_⟩
    · have e1 : ((i + 1 : Nat) : Int) = (i : Int) + 1 := by omega
      rw [e1]; exact he'
    · obtain ⟨o1, q1, r1⟩ := hit'
      exact ⟨o1, (sb.2 it (Ne.symm hne)).trans q1, r1⟩
    · have hb' : b < s.heap.objs.size := by
        have e' : b = e ∨ b = it := by simpa using hb
        rcases e' with z | z
        · rw [z]; exact hel
        · rw [z]; exact hil
      rw [upd_ne (Nat.ne_of_lt hb')]
      exact (hf b hb).1
  done := by
    intro X hP hw hK hc i pins s σ H E I hf st hg
    subst hP hw hK
    obtain ⟨⟨old, he⟩, hit, hne⟩ := st
    obtain ⟨f0, f1, f2, f3, f4, f5⟩ := hf it (by simp)
    have hh : X.A.handled = none := I.ok.hd hc
    have hg : i = x.cps.size := hg
    subst hg
    exact wpAny_pyNext_enum_endD (Draws.text (A := X.A.in1) hh it x t) he hit fun h' eb => ⟨rfl, I.turned (t' := s.toks) (fun b o hb q => eb b o hb q) f0 f1 f3 f4 f5⟩
  self := fun A i s Q E st h => let ⟨⟨_, he⟩, _⟩ := st; wpAny_pyIter_enum he h
def iEnumS (ta : TA) : TI := fun σ H R => ta σ H fun vs H1 => ∃ x, vs = [.str x] ∧ R (Ites x) H1
theorem pi_enumS {X : Cx} {e : Expr} {ta : TA} {p pos tpos : Pos} {elts : List Expr} {kk : Nat} (hg : Gl X "enumerate") (hm : X.mg "enumerate" = none) (ha : PA X [e] ta) (hs : starEach [e] X.env = [(false, eval e X.env)] := by rfl) :
    PI X (.Tuple elts kk tpos) (.Call (.Name "enumerate" p) [e] [] pos) (iEnumS ta) := by
  refine ⟨fun pins s σ H R I h => ?_⟩
  refine Call_ (ld_blt I hg hm boot_enumerate (PyProof.Rows.callWith_type1 (thn (ha.run pos pins s σ H _ I h) fun us s1 ⟨vs, H1, I1, r1, q1⟩ => ?_) hs rfl))
  obtain ⟨x, ex, q⟩ := q1
  subst ex
  cases r1 with
  | cons r rr =>
    cases rr
    obtain ⟨t, rfl⟩ := r
    refine call_enumerate_str fun h' he hit hsz hk => wpAny_pyIter_enum he ?_
    have I2 : Inv X pins σ H1 { s1 with heap := h' } := I1.kept (t' := s1.toks) hk
    refine ⟨s1.heap.objs.size + 1, [s1.heap.objs.size + 1, s1.heap.objs.size], _, _, H1, rfl, I2, turn_es (t := t) (s1.heap.objs.size + 1) s1.heap.objs.size, ⟨⟨.none, he⟩, hit, Nat.succ_ne_self _⟩, fun b hb => ?_, q⟩
    have e' : b = s1.heap.objs.size + 1 ∨ b = s1.heap.objs.size := by simpa using hb
    have hle : s1.heap.objs.size ≤ b := by
      rcases e' with z | z
      · rw [z]; exact Nat.le_add_right _ _
      · rw [z]; exact Nat.le_refl _
    exact I1.fpOk hle (I1.hok.fresh hle)
theorem rd_iEnumS {ta : TA} {σ : St} {H : Hp} {Rr : It → Hp → Prop} (h : ta σ H fun vs H1 => ∃ x, vs = [.str x] ∧ Rr (Ites x) H1) : iEnumS ta σ H Rr := h
theorem pairy_es {L : List Nat} {H : Hp} : Pairy (Ites (mkS L)) L.length (fun i => [.int (i : Nat), .str ⟨#[L[i]?.getD 0]⟩]) H where
  stop := fun H s => by show L.length = _; simp [mkS]
  go := fun i H s hi => by show i < _; simpa [mkS] using hi
  yld := fun i H x H' s hi y => by
    obtain ⟨T, c, e1, e2, e3, e4⟩ := y
    have e4' : L[i]? = some c := by simpa [mkS] using e4
    exact ⟨T, e2, by rw [e3, e4']; rfl, e1⟩
theorem rd_isLetter {c : Nat} {H : Hp} {Q : VK} {E : XK} (h : 97 ≤ c ∧ c ≤ 122) (q : Q (.bl true) H) : sp_is_letter [.str ⟨#[c]⟩] H Q E :=
  ⟨_, rfl, trivial, fun x e => by cases e; rw [sizeLine_eq]; exact (by decide : 1 ≤ 16777216), by rw [show isLet (.str ⟨#[c]⟩) = true from by simp [isLet, h.1, h.2]]; exact q⟩
end L2.Px
set_option Elab.async false
set_option linter.all false
set_option maxRecDepth 100000
set_option maxHeartbeats 1000000
namespace L2.Px
open PySem PySem.Spec PyProof.Rows StX TL
section
variable {K : PySem.W.Frag} {CT CP : Addr} {H : Hp} {Q : VK} {E : XK} {r : Addr} {i : Int}
theorem rd_p9 (q : Q (.int 1000000000) H) : rI CPow (fun i j => V.int (i ^ j.toNat)) (.int 10) (.int 9) H Q := rd_I ⟨by decide, by decide, by decide⟩ (by rw [show (10 : Int) ^ (9 : Int).toNat = 1000000000 from by decide +kernel]; exact q)
theorem okLs.join {a b : List Stp} (h : okLs a) (g : okLs b) : okLs (joinS a b) := fun c hc => by
  rw [tyL_join] at hc
  exact (List.mem_append.mp hc).elim (h c) (g c)
end
end L2.Px
set_option Elab.async false
set_option linter.all false
set_option maxRecDepth 100000
set_option maxHeartbeats 1000000
namespace L2.Px
open PySem PySem.Spec PyProof.Rows StX TL
theorem sum_map_add (L : List Nat) (f g : Nat → Nat) : (L.map fun k => f k + g k).sum = (L.map f).sum + (L.map g).sum := by
  induction L with
  | nil => rfl
  | cons x L ih => simp only [List.map_cons, List.sum_cons, ih]; omega
theorem nth_unique {ss : List Stp} {keys : List Nat} {n p q : Nat} (h : IsNth ss keys n p) (g : IsNth ss keys n q) : p = q := by
  rcases Nat.lt_trichotomy p q with z | z | z
  · have := tot_mono ss keys (show p + 1 ≤ q from z)
    have := h.2.2; have := g.2.1; omega
  · exact z
  · have := tot_mono ss keys (show q + 1 ≤ p from z)
    have := g.2.2; have := h.2.1; omega
theorem tot_ind (keys : List Nat) (k : Nat) : (keys.map fun j => if k = j then 1 else 0).sum = keys.count k := by
  induction keys with
  | nil => rfl
  | cons x r ih => rw [List.map_cons, List.sum_cons, ih, List.count_cons]; simp only [beq_iff_eq]; by_cases z : k = x <;> simp [z, eq_comm, Nat.add_comm]
theorem tot_succ {ss : List Stp} (ok : okFrom 0 ss) (keys : List Nat) {p : Nat} (h : p < sz ss) : tot ss keys (p + 1) = tot ss keys p + keys.count (kat ss p) := by
  unfold tot
  rw [← tot_ind, ← sum_map_add]
  congr 1
  refine List.map_congr_left fun k _ => cn_succ ok h k
end L2.Px
set_option Elab.async false
set_option linter.all false
set_option maxRecDepth 100000
set_option maxHeartbeats 1000000
namespace L2.Px
open PySem PySem.Spec PyProof.Rows StX TL
section
variable {K : PySem.W.Frag} {CT CP CC : Addr} {H H' H1 : Hp} {Q : VK} {E : XK} {a l : Addr} {ss : List Stp} {i j : Int} {L M : List Nat}
theorem IsPl.head {k f : Nat} (ok : okFrom 0 ss) (h : IsPl ss k f L) (hf : f < sz ss) (hk : kat ss f = k) : L[0]?.getD 0 = f ∧ 0 < L.length := by
  have e := tot_succ ok [k] hf
  rw [tot_one, tot_one, hk] at e
  simp at e
  have := cn_mono ss k (show f + 1 ≤ sz ss from hf)
  have hl : 0 < L.length := by have := h.all; omega
  refine ⟨nth_unique (h.nth 0 hl) ⟨hf, ?_, ?_⟩, hl⟩
  · rw [tot_one]; exact Nat.le_refl _
  · rw [tot_one]; omega
variable (K CT CP)
end
end L2.Px
set_option Elab.async false
set_option linter.all false
set_option maxRecDepth 100000
set_option maxHeartbeats 4000000
namespace L2.Px
open PySem PySem.Spec PyProof.Rows
end L2.Px
namespace L2.Px
open PySem PySem.Spec PyProof.Rows
end L2.Px
set_option Elab.async false
set_option linter.all false
set_option maxRecDepth 100000
set_option maxHeartbeats 1000000
namespace L2.Px
open PySem PySem.Spec PyProof.Rows StX TL
/-- a list of the steps ss -/
def LX (K : PySem.W.Frag) (H : Hp) (a : Addr) (ss : List Stp) : Prop := ∃ ms, H a = some (.lst ms) ∧ StepsAt K H ms ss
section
variable {K : PySem.W.Frag} {CT CP : Addr} {H H' : Hp} {Q : VK} {E : XK} {a b r p : Addr} {ss : List Stp} {L M : List Nat}
theorem LX.mono (h : LX K H a ss) (e : Same H H') : LX K H' a ss := let ⟨ms, q, s⟩ := h; ⟨ms, e _ _ q, s.mono e⟩
end
end L2.Px
namespace L2.Px
open PySem PySem.Spec PyProof.Rows StX TL
end L2.Px
namespace L2.Px
open PySem PySem.Spec PyProof.Rows StX TL
end L2.Px
namespace L2.Px
open PySem PySem.Spec PyProof.Rows StX TL
/-- rising lists of the same members are equal -/
theorem rising_unique {α : Type} {lt : α → α → Prop} (ir : ∀ a, ¬ lt a a) (tr : ∀ a b c, lt a b → lt b c → lt a c) : ∀ {l m : List α}, l.Pairwise lt → m.Pairwise lt → (∀ x, x ∈ l ↔ x ∈ m) → l = m
  | [], [], _, _, _ => rfl
  | [], y :: m, _, _, h => absurd ((h y).mpr List.mem_cons_self) (List.not_mem_nil)
  | x :: l, [], _, _, h => absurd ((h x).mp List.mem_cons_self) (List.not_mem_nil)
  | x :: l, y :: m, h1, h2, h => by
    obtain ⟨a1, a2⟩ := List.pairwise_cons.mp h1
    obtain ⟨b1, b2⟩ := List.pairwise_cons.mp h2
    have e : x = y := by
      rcases List.mem_cons.mp ((h x).mp List.mem_cons_self) with z | z
      · exact z
      · rcases List.mem_cons.mp ((h y).mpr List.mem_cons_self) with u | u
        · exact u.symm
        · exact absurd (tr _ _ _ (a1 _ u) (b1 _ z)) (ir x)
    subst e
    rw [rising_unique ir tr a2 b2 fun z => ⟨fun hz => ((List.mem_cons.mp ((h z).mp (List.mem_cons_of_mem _ hz))).resolve_left fun e => ir x (by have := a1 _ hz; rwa [e] at this)),
      fun hz => ((List.mem_cons.mp ((h z).mpr (List.mem_cons_of_mem _ hz))).resolve_left fun e => ir x (by have := b1 _ hz; rwa [e] at this))⟩]
end L2.Px
namespace L2.Px
open PySem PySem.Spec PyProof.Rows StX TL
end L2.Px
set_option Elab.async false
set_option linter.all false
set_option maxRecDepth 100000
set_option maxHeartbeats 1000000
namespace L2.Px
open PySem PySem.Spec PyProof.Rows StX TL
end L2.Px
namespace L2.Px
open PySem PySem.Spec PyProof.Rows StX TL
section
variable {K : PySem.W.Frag} {CT CP : Addr} {H H' : Hp} {Q : VK} {E : XK} {a b r l : Addr} {ss : List Stp} {i j k : Int} {L M : List Nat}
/-- x in a list of numbers -/
theorem inV_nat (x : Nat) (L : List Nat) : inV (.int (x : Nat)) (natV L) = decide (x ∈ L) := by
  unfold inV natV
  rw [List.any_map, Bool.eq_iff_iff, List.any_eq_true, decide_eq_true_iff]
  constructor
  · rintro ⟨y, hy, e⟩
    have : ((y : Nat) : Int) = (x : Nat) := by simpa [eqV] using e
    have : y = x := by omega
    exact this ▸ hy
  · intro h
    exact ⟨x, h, by simp [eqV]⟩
theorem rd_inNN {x : Nat} (h : H l = some (.lst (natV L))) (q : Q (.bl (decide (x ∈ L))) H) : rIn K false (.int (x : Nat)) (.ref l) H Q :=
  ⟨l, natV L, rfl, .inl (SqL.of h), rfl, by unfold natV; rw [List.all_map, List.all_eq_true]; intro y _; rfl, by rw [if_neg Bool.false_ne_true, inV_nat]; exact q⟩
end
end L2.Px
namespace L2.Px
open PySem PySem.Spec PyProof.Rows StX TL
end L2.Px
set_option Elab.async false
set_option linter.all false
set_option maxRecDepth 100000
set_option maxHeartbeats 1000000
namespace L2.Px
open PySem PySem.Spec PyProof.Rows StX TL
/-- a def of the top whose last parameters have the defaults dvs -/
def DefGF (K : PySem.W.Frag) (mg : Str → Option Value) (x : Str) (st : Stmt) (ps : List Str) (dvs : List V) : Prop :=
  ∃ f fd, L2.FunD K x x (defArgs st) (defBody st) (defScope st) dvs [] f fd ∧ mg x = some (.ref f) ∧ (∃ ds, Vals dvs ds ∧ Binds K fd ps ds) ∧ Binds K fd ps []
section
variable {P : Program} {w : World} {K : PySem.W.Frag} {mg : Str → Option Value} {base : Heap} {k : Nat} {x : Str} {st : Stmt} {ps : List Str} {sp : Sp} {dvs : List V} {h : Heap} {f : Addr}
theorem DefGF.run {N : List Str} (D : DefGF K mg x st ps dvs) (S : FnScope N ps (defScope st)) (len : ∀ vs H Q E, sp vs H Q E → vs.length = ps.length)
    (hbody : ∀ (f : Addr) (cdv : Value) (A : Around) (outer : List Env) (s : Shared) (H : Hp) (vs : List V) (Q : VK) (E : XK), Room k (A.deeper (envOfC x (defScope st) s.heap.objs.size f cdv)) → sp vs H Q E →
      ∃ t, PSs (cxOf CX0 P w K mg base N x (defScope st) f cdv A outer s H E).nox (defBody st) t ∧ t { nx := fun _ H' => Q .non H', rt := Q } (start N vs) H) :
    GOk P w K mg base CX0 (k + 1) x (fun vs => sp (vs ++ dvs)) ∧ GOk P w K mg base CX0 (k + 1) x sp := by
  obtain ⟨f, fd, F, a, ⟨ds, hd, b⟩, b0⟩ := D
  have R := F.ok (CX := CX0) (P := P) (w := w) (mg := mg) (base := base) S len fun cdv A outer s H vs Q E hr h => by
    obtain ⟨t, ht, q⟩ := hbody f cdv A outer s H vs Q E hr h
    exact ⟨t, ht.nox, q⟩
  exact ⟨⟨f, FnOk.toR1 R b hd, a, F.kp⟩, ⟨f, FnOk.toR R b0, a, F.kp⟩⟩
theorem DefGF.ok {N : List Str} (D : DefGF K mg x st ps dvs) (S : FnScope N ps (defScope st)) (len : ∀ vs H Q E, sp vs H Q E → vs.length = ps.length)
    (hbody : ∀ (f : Addr) (cdv : Value) (A : Around) (outer : List Env) (s : Shared) (H : Hp) (vs : List V) (Q : VK) (E : XK), Room k (A.deeper (envOfC x (defScope st) s.heap.objs.size f cdv)) → sp vs H Q E →
      ∃ t, PSs (cxOf CX0 P w K mg base N x (defScope st) f cdv A outer s H E).nox (defBody st) t ∧ t { nx := fun _ H' => Q .non H', rt := Q } (start N vs) H) :
    GOk P w K mg base CX0 (k + 1) x (fun vs => sp (vs ++ dvs)) := (D.run S len hbody).1
end
end L2.Px
set_option Elab.async false
set_option linter.all false
set_option maxRecDepth 100000
set_option maxHeartbeats 1000000
namespace L2.Px
open PySem PySem.Spec PyProof.Rows StX TL
/-- how many keys stand ahead of p -/
noncomputable def few (l : List Nat) (p : Nat) : Nat := open Classical in if h : ∃ m, ∀ x, x ∈ l.take p ↔ x < m then h.choose else 0
section
variable {K : PySem.W.Frag} {CT CP : Addr} {H H' : Hp} {Q : VK} {E : XK} {a b l D : Addr} {ss : List Stp} {i j : Int} {L : List Nat}
theorem rd_dsetd {td ty tx : TE} {σ : St} (h : td σ H fun x H1 => ∃ a, x = .ref a ∧ IsD H1 a ∧ ty σ H1 fun y H2 => tx σ H2 fun z H3 => ∃ (kvs : List (Key × V)) (k : Key), H3 a = some (.dK kvs) ∧ y = kV k ∧ kvs.length < sizeLine ∧
  (∀ v, valV kvs k = some v → Q v H3) ∧ (valV kvs k = none → Q z (upd H3 a (.dK (putK kvs k z))))) : tDSetd td ty tx σ H Q := h
variable (K CT CP)
variable {K CT CP}
end
end L2.Px
set_option Elab.async false
set_option linter.all false
set_option maxRecDepth 100000
set_option maxHeartbeats 1000000
namespace L2.Px
open PySem PySem.Spec PyProof.Rows StX TL
theorem mul_one (a : List Stp) : mulS a 1 = a := if_pos (.inl rfl)
end L2.Px
namespace L2.Px
open PySem PySem.Spec PyProof.Rows StX TL
end L2.Px
namespace L2.Px
open PySem PySem.Spec PyProof.Rows StX TL
theorem natV_take (L : List Nat) (n : Nat) : (natV L).take n = natV (L.take n) := by unfold natV; rw [List.map_take]
end L2.Px
namespace L2.Px
open PySem PySem.Spec PyProof.Rows StX TL
end L2.Px
namespace L2.Px
open PySem PySem.Spec PyProof.Rows StX TL
end L2.Px
namespace L2.Px
open PySem PySem.Spec PyProof.Rows StX TL
end L2.Px
set_option Elab.async false
set_option linter.all false
set_option maxRecDepth 100000
set_option maxHeartbeats 1000000
namespace L2.Px
open PySem PySem.Spec PyProof.Rows StX TL
open Sem (wp)
end L2.Px
set_option Elab.async false
set_option linter.all false
set_option maxRecDepth 100000
set_option maxHeartbeats 1000000
namespace L2.Px
open PySem PySem.Spec PyProof.Rows StX TL
end L2.Px
set_option Elab.async false
set_option linter.all false
set_option maxRecDepth 100000
set_option maxHeartbeats 1000000
namespace L2.Px
open PySem PySem.Spec PyProof.Rows StX TL
/-- for over a walk of plain items -/
theorem for_plain {J : It} {n : Nat} {it : Nat → V} {g : TG} {tb : TS} {D : Ends} {σ : St} {H : Hp} (Pv : Nat → St → Hp → Prop) (h0 : Pv 0 σ H) (hl : ∀ i σ H, i ≤ n → Pv i σ H → Plain J n it H)
    (hs : ∀ i σ H, i < n → Pv i σ H → g (it i) σ H fun σ2 H2 => tb { D with nx := Pv (i + 1), ct := Pv (i + 1), bk := D.nx } σ2 H2) (hd : ∀ σ H, Pv n σ H → D.nx σ H) : ForW J g tb D σ H := by
  refine ⟨fun i m σ H => m = n - i ∧ i ≤ n ∧ Pv i σ H, ⟨n, by simp, Nat.zero_le _, h0⟩, ?_⟩
  rintro i m σ H ⟨rfl, hi, p⟩
  have q := hl i σ H hi p
  by_cases hlt : i < n
  · refine .inr ⟨q.go i H (Same.refl _) hlt, Pv (i + 1), fun σ' H' p' => ⟨n - (i + 1), by omega, rfl, hlt, p'⟩, fun x H' y => ?_⟩
    obtain ⟨e1, e2⟩ := q.yld i H x H' (Same.refl _) hlt y
    subst e1 e2
    exact hs i σ _ hlt p
  · have e : i = n := by omega
    subst e
    exact .inl ⟨q.stop H (Same.refl _), hd σ H p⟩
/-- the list of pairs (key, letter) at l -/
def ChAt (K : PySem.W.Frag) (H : Hp) (l : Addr) (cs : List (Nat × Nat)) (n : Nat) : Prop :=
  ∃ xs : List V, H l = some (.lst xs) ∧ xs.length = cs.length ∧ ∀ (i : Nat) (c : Nat × Nat), cs[i]? = some c → c.1 < n ∧ 97 ≤ c.2 ∧ c.2 ≤ 122 ∧ ∃ T, xs[i]? = some (V.ref T) ∧ H T = some (.tup [.int (c.1 : Nat), .str ⟨#[c.2]⟩])
section
variable (K : PySem.W.Frag) (CT CP : Addr) {H H' : Hp} {a b l : Addr} {ss tt : List Stp} {cs : List (Nat × Nat)} {n : Nat} {Q : VK} {E : XK}
variable {K CT CP}
theorem ChAt.mono (h : ChAt K H l cs n) (S : Same H H') : ChAt K H' l cs n := by
  obtain ⟨xs, e, hl, hx⟩ := h
  exact ⟨xs, S _ _ e, hl, fun i c hc => let ⟨h1, h2, h3, T, h4, h5⟩ := hx i c hc; ⟨h1, h2, h3, T, h4, S _ _ h5⟩⟩
variable (K CT CP)
variable {K CT CP}
end
end L2.Px
set_option Elab.async false
set_option linter.all false
set_option maxRecDepth 100000
set_option maxHeartbeats 1000000
namespace L2.Px
open PySem PySem.Spec PyProof.Rows StX TL
section
variable {K : PySem.W.Frag} {J : It} {n j : Nat} {it : Nat → V} {te : TE} {vs : List Nat} {σ : St} {H H1 : Hp} {D r l : Addr} {Qd : Hp → Prop} {Q : VK} {ss : List Stp}
theorem LX.kp {a : Addr} {H' : Hp} (h : LX K H a ss) (e : Kp H H') : LX K H' a ss := let ⟨ms, q, s⟩ := h; ⟨ms, e _ _ (nr_refs s.refs) q, s.kp e⟩
end
end L2.Px
set_option Elab.async false
set_option linter.all false
set_option maxRecDepth 100000
set_option maxHeartbeats 1000000
namespace L2.Px
open PySem PySem.Spec PyProof.Rows StX TL
end L2.Px
set_option Elab.async false
set_option linter.all false
set_option maxRecDepth 100000
set_option maxHeartbeats 1000000
namespace L2.Px
open PySem PySem.Spec PyProof.Rows StX TL
section
variable {K : PySem.W.Frag} {CT CP : Addr} {H H' H1 : Hp} {Q : VK} {E : XK} {a b l r : Addr} {ss tt : List Stp} {i j : Int} {L M : List Nat} {f g : Nat → Nat} {cs ds : List Nat} {t1 t2 t3 : TO} {te : TE} {σ : St}
theorem rd_ixCl {c : Nat} (hz : L.length ≤ 16777216) (h0 : L.getLast? = some c) (q : Q (.str ⟨#[c]⟩) H) : rIx K (.str (mkS L)) (.int (-1)) H Q := by
  obtain ⟨l, rfl⟩ := List.getLast?_eq_some_iff.mp h0
  exact rd_ixS (by rw [mkS_len, sizeLine_eq]; exact hz) (atI_last l c) q
def due (L : List Nat) : List Nat := (List.range L.length).filter fun p => !decide (L[p]?.getD 0 = p)
theorem rgV_zero (n : Nat) : rgV 0 (n : Nat) = natV (List.range n) := by
  have := rgV_nat 0 n
  rw [show ((0 : Nat) : Int) = 0 from rfl] at this
  rw [this, Nat.sub_zero, ← List.range_eq_range']
  rfl
variable (K CT CP)
variable {K CT CP}
end
end L2.Px
set_option Elab.async false
set_option linter.all false
set_option maxRecDepth 100000
set_option maxHeartbeats 1000000
namespace L2.Px
open PySem PySem.Spec PyProof.Rows StX TL
/-- f leads each key along the heads hs to its root -/
structure Rt (hs : List Nat) (f : Nat → Nat) : Prop where
  le : ∀ k, k < hs.length → hs[k]?.getD 0 ≤ k
  root : ∀ k, k < hs.length → hs[k]?.getD 0 = k → f k = k
  step : ∀ k, k < hs.length → f k = f (hs[k]?.getD 0)
theorem Rt.spec {hs : List Nat} {f : Nat → Nat} (h : Rt hs f) : ∀ k, k < hs.length → f k ≤ k ∧ hs[f k]?.getD 0 = f k ∧ f (f k) = f k := by
  intro k
  induction k using Nat.strongRecOn with
  | _ k ih =>
    intro hk
    by_cases e : hs[k]?.getD 0 = k
    · have r := h.root k hk e
      rw [r]
      exact ⟨Nat.le_refl _, e, r⟩
    · have l := h.le k hk
      obtain ⟨i1, i2, i3⟩ := ih _ (by omega) (show hs[k]?.getD 0 < hs.length by omega)
      rw [h.step k hk]
      exact ⟨by omega, i2, i3⟩
theorem Rt.start (n : Nat) : Rt (List.range n) id := by
  refine ⟨fun k hk => ?_, fun k _ _ => rfl, fun k hk => ?_⟩ <;> rw [List.length_range] at hk <;> rw [List.getElem?_range hk] <;> simp
def tieF (f : Nat → Nat) (a b : Nat) : Nat → Nat := fun k => if f k = max (f a) (f b) then min (f a) (f b) else f k
theorem tieF_at {f : Nat → Nat} {a b k : Nat} : (f k = max (f a) (f b) ∧ tieF f a b k = min (f a) (f b)) ∨ (f k ≠ max (f a) (f b) ∧ tieF f a b k = f k) := by
  unfold tieF
  by_cases h : f k = max (f a) (f b)
  · exact .inl ⟨h, if_pos h⟩
  · exact .inr ⟨h, if_neg h⟩
theorem Rt.tie {hs : List Nat} {f : Nat → Nat} (h : Rt hs f) {a b : Nat} (ha : a < hs.length) (hb : b < hs.length) : Rt (hs.set (max (f a) (f b)) (min (f a) (f b))) (tieF f a b) := by
  obtain ⟨a1, a2, a3⟩ := h.spec a ha
  obtain ⟨b1, b2, b3⟩ := h.spec b hb
  obtain ⟨m, hm, hmax⟩ : ∃ m, m < hs.length ∧ max (f a) (f b) = m := ⟨_, by omega, rfl⟩
  obtain ⟨l, hl, hmin⟩ : ∃ l, l ≤ m ∧ min (f a) (f b) = l := ⟨_, by omega, rfl⟩
  have hfm : f m = m := by
    rcases Nat.le_total (f a) (f b) with z | z
    · rw [← hmax, Nat.max_eq_right z, b3]
    · rw [← hmax, Nat.max_eq_left z, a3]
  have hfl : f l = l := by
    rcases Nat.le_total (f a) (f b) with z | z
    · rw [← hmin, Nat.min_eq_left z, a3]
    · rw [← hmin, Nat.min_eq_right z, b3]
  have T : ∀ k, (f k = m ∧ tieF f a b k = l) ∨ (f k ≠ m ∧ tieF f a b k = f k) := fun k => by
    have := tieF_at (f := f) (a := a) (b := b) (k := k)
    rwa [hmax, hmin] at this
  rw [hmax, hmin]
  refine ⟨fun k hk => ?_, fun k hk e => ?_, fun k hk => ?_⟩ <;> rw [List.length_set] at hk
  · rw [List.getElem?_set]
    by_cases e : m = k
    · rw [if_pos e, if_pos (by omega)]; simp; omega
    · rw [if_neg e]; exact h.le k hk
  · rw [List.getElem?_set] at e
    by_cases e' : m = k
    · rw [if_pos e', if_pos (by omega)] at e
      simp at e
      rcases T k with ⟨t1, t2⟩ | ⟨t1, t2⟩
      · omega
      · subst e'; exact absurd hfm t1
    · rw [if_neg e'] at e
      have := h.root k hk e
      rcases T k with ⟨t1, t2⟩ | ⟨t1, t2⟩
      · omega
      · rw [t2, this]
  · rw [List.getElem?_set]
    by_cases e' : m = k
    · rw [if_pos e', if_pos (by omega)]
      simp only [Option.getD_some]
      rcases T k with ⟨t1, t2⟩ | ⟨t1, t2⟩
      · rcases T l with ⟨u1, u2⟩ | ⟨u1, u2⟩
        · rw [t2, u2]
        · rw [t2, u2, hfl]
      · subst e'; exact absurd hfm t1
    · rw [if_neg e']
      have := h.step k hk
      rcases T k with ⟨t1, t2⟩ | ⟨t1, t2⟩ <;> rcases T (hs[k]?.getD 0) with ⟨u1, u2⟩ | ⟨u1, u2⟩ <;> rw [t2, u2] <;> omega
/-- f is the ties of P, and no more -/
structure Clo (P : List (Nat × Nat)) (f : Nat → Nat) : Prop where
  tied : ∀ p ∈ P, f p.1 = f p.2
  fix : ∀ g : Nat → Nat, (∀ p ∈ P, g p.1 = g p.2) → ∀ k, g (f k) = g k
theorem Clo.tie {P : List (Nat × Nat)} {f : Nat → Nat} (h : Clo P f) (a b : Nat) : Clo (P ++ [(a, b)]) (tieF f a b) := by
  refine ⟨fun p hp => ?_, fun g hg k => ?_⟩
  · rcases List.mem_append.mp hp with hp | hp
    · have := h.tied p hp
      unfold tieF
      rw [this]
    · rw [List.mem_singleton.mp hp]
      show tieF f a b a = tieF f a b b
      rcases tieF_at (f := f) (a := a) (b := b) (k := a) with ⟨t1, t2⟩ | ⟨t1, t2⟩ <;> rcases tieF_at (f := f) (a := a) (b := b) (k := b) with ⟨u1, u2⟩ | ⟨u1, u2⟩ <;> rw [t2, u2] <;> omega
  · have hp := fun p hp => hg p (List.mem_append_left _ hp)
    have hab := hg (a, b) (List.mem_append_right _ List.mem_cons_self)
    have ha := h.fix g hp a
    have hb := h.fix g hp b
    have hk := h.fix g hp k
    have e : g (max (f a) (f b)) = g (min (f a) (f b)) := by
      rcases Nat.le_total (f a) (f b) with z | z
      · rw [Nat.max_eq_right z, Nat.min_eq_left z, ha, hb]; exact hab.symm
      · rw [Nat.max_eq_left z, Nat.min_eq_right z, ha, hb]; exact hab
    rcases tieF_at (f := f) (a := a) (b := b) (k := k) with ⟨t1, t2⟩ | ⟨t1, t2⟩
    · rw [t2, ← e, ← t1, hk]
    · rw [t2, hk]
theorem rev_ind {α : Type} {motive : List α → Prop} (h0 : motive []) (hs : ∀ l a, motive l → motive (l ++ [a])) (l : List α) : motive l := by
  have : ∀ n (l : List α), l.length = n → motive l := by
    intro n
    induction n with
    | zero => intro l hl; rw [List.length_eq_zero_iff.mp hl]; exact h0
    | succ n ih =>
      intro l hl
      have hne : l ≠ [] := fun z => by rw [z] at hl; simp at hl
      have e := List.dropLast_concat_getLast hne
      rw [← e]
      exact hs _ _ (ih _ (by rw [List.length_dropLast, hl]; rfl))
  exact this _ l rfl
def rootsF (f : Nat → Nat) (n : Nat) : List Nat := (List.range n).filter fun r => decide (f r = r)
def memF (f : Nat → Nat) (n r : Nat) : List Nat := (List.range n).filter fun k => decide (f k = r)
def clsF (f : Nat → Nat) (n : Nat) : List (List Nat) := (rootsF f n).map (memF f n)
theorem memF_succ (f : Nat → Nat) (n r : Nat) : memF f (n + 1) r = if f n = r then memF f n r ++ [n] else memF f n r := by
  unfold memF
  rw [List.range_succ, List.filter_append]
  by_cases h : f n = r
  · rw [if_pos h]; simp [h]
  · rw [if_neg h]; simp [h]
theorem rootsF_succ (f : Nat → Nat) (n : Nat) : rootsF f (n + 1) = if f n = n then rootsF f n ++ [n] else rootsF f n := by
  unfold rootsF
  rw [List.range_succ, List.filter_append]
  by_cases h : f n = n
  · rw [if_pos h]; simp [h]
  · rw [if_neg h]; simp [h]
theorem mem_rootsF {f : Nat → Nat} {n r : Nat} : r ∈ rootsF f n ↔ r < n ∧ f r = r := by unfold rootsF; rw [List.mem_filter, List.mem_range]; simp
theorem mem_memF {f : Nat → Nat} {n r k : Nat} : k ∈ memF f n r ↔ k < n ∧ f k = r := by unfold memF; rw [List.mem_filter, List.mem_range]; simp
end L2.Px
set_option Elab.async false
set_option linter.all false
set_option maxRecDepth 100000
set_option maxHeartbeats 2000000
namespace L2.Px
open PySem PySem.Spec PyProof.Rows StX TL
end L2.Px
set_option Elab.async false
set_option linter.all false
set_option maxRecDepth 100000
set_option maxHeartbeats 2000000
namespace L2.Px
open PySem PySem.Spec PyProof.Rows StX TL
section
open SrtO Srt
variable {prog : Program} {w : World} {A : Around} {E : Value → Shared → Prop} {s : Shared} {vs : List Value} {ki : Value → Int} {kc : Value → Str}
/-- a tuple of an int and a text -/
def TupIS (h : Heap) (v : Value) (i : Int) (c : Str) : Prop := ∃ (b : Addr) (ob : Obj) (t1 t2 : Tok) (n : Nat), v = .ref b ∧ h.get? b = some ob ∧ ob.cls = .type "tuple" ∧ ob.data = .seq #[.int i t1, .str c t2] n
theorem TupIS.stays {h h' : Heap} {v : Value} {i : Int} {c : Str} (x : TupIS h v i c) (st : ∀ b ob, h.get? b = some ob → ob.cls = .type "tuple" → h'.get? b = some ob) : TupIS h' v i c :=
  let ⟨b, ob, t1, t2, n, e1, e2, e3, e4⟩ := x; ⟨b, ob, t1, t2, n, e1, st b ob e2 e3, e3, e4⟩
end
end L2.Px
set_option Elab.async false
set_option linter.all false
set_option maxRecDepth 100000
set_option maxHeartbeats 2000000
namespace L2.Px
open PySem PySem.Spec PyProof.Rows StX TL
section
variable {X : Cx} {K : PySem.W.Frag}
theorem sortIK (hk : X.K = K) : CallR X (.builtin "sorted") (rSortedI K) := hk ▸ cr_sortedI
end
def tieFs (x : Str) (h : Addr) : List (Str × V) := putF "heads" (.ref h) (putF "letters" (.str x) [])
theorem tieFs_no {x m : Str} {h : Addr} (z : m ≠ "heads" ∧ m ≠ "letters") : (tieFs x h).lookup m = none := by
  unfold tieFs; rw [lookup_putF, if_neg z.1, lookup_putF, if_neg z.2]; rfl
/-- the ties at t of the keys with letters L: f leads to the roots -/
structure TieA (CI : Addr) (H : Hp) (t dx h : Addr) (L hs : List Nat) (f : Nat → Nat) : Prop where
  ins : H t = some (.ins CI dx (tieFs (mkS L) h))
  lst : H h = some (.lst (natV hs))
  rt : Rt hs f
  len : hs.length = L.length
  ne : h ≠ t
section
variable {K : PySem.W.Frag} {CI CT CP : Addr} {H H' H1 : Hp} {t dx h l r p : Addr} {L hs hs' M A B : List Nat} {f f' : Nat → Nat} {Q : VK} {E : XK} {cs : List (List Nat)} {i j : Int} {ss tt : List Stp} {a b : Addr}
theorem TieA.mono (z : TieA CI H t dx h L hs f) (S : Same H H') : TieA CI H' t dx h L hs f := ⟨S _ _ z.ins, S _ _ z.lst, z.rt, z.len, z.ne⟩
theorem TieA.next (z : TieA CI H t dx h L hs f) (B : But h H H') (e : H' h = some (.lst (natV hs'))) (r : Rt hs' f') (n : hs'.length = hs.length) : TieA CI H' t dx h L hs' f' := ⟨B _ _ (Ne.symm z.ne) z.ins, e, r, by rw [n, z.len], z.ne⟩
theorem TieA.insM {m : Str} (z : TieA CI H t dx h L hs f) (hm : m ≠ "heads" ∧ m ≠ "letters" := by decide +kernel) : InsM H t CI m := ⟨dx, _, z.ins, tieFs_no hm⟩
/-- the list at l holds the lists cs -/
def ClsAt (H : Hp) (l : Addr) (cs : List (List Nat)) : Prop := ∃ as : List Addr, H l = some (.lst (as.map V.ref)) ∧ as.length = cs.length ∧ ∀ (i : Nat) c, cs[i]? = some c → ∃ a, as[i]? = some a ∧ H a = some (.lst (natV c))
theorem ClsAt.mono (z : ClsAt H l cs) (S : Same H H') : ClsAt H' l cs := let ⟨as, e, n, g⟩ := z; ⟨as, S _ _ e, n, fun i c hc => let ⟨a, x, y⟩ := g i c hc; ⟨a, x, S _ _ y⟩⟩
variable (K CI CT CP)
variable {K CI CT CP}
end
end L2.Px
set_option Elab.async false
set_option linter.all false
set_option maxRecDepth 100000
set_option maxHeartbeats 1000000
namespace L2.Px
open PySem PySem.Spec PyProof.Rows StX TL
def kvR (rs : List Nat) (cl : Nat → Addr) : List (Key × V) := rs.map fun (r : Nat) => ((Sum.inl (r : Int) : Key), V.ref (cl r))
theorem kvR_put {rs : List Nat} {cl : Nat → Addr} {r : Nat} (a : Addr) (h : r ∉ rs) : putK (kvR rs cl) (Sum.inl (r : Int) : Key) (.ref a) = kvR (rs ++ [r]) (fun x => if x = r then a else cl x) := by
  unfold putK
  rw [if_neg (by
    rw [List.any_eq_true]
    rintro ⟨p, hp, e⟩
    obtain ⟨x, hx, rfl⟩ := List.mem_map.mp hp
    have := Sum.inl.inj (of_decide_eq_true e)
    have : x = r := by omega
    exact h (this ▸ hx))]
  unfold kvR
  rw [List.map_append]
  congr 1
  · exact List.map_congr_left fun x hx => by
      have e : x ≠ r := fun z => h (z ▸ hx)
      simp only [if_neg e]
  · simp
theorem rootsF_len (f : Nat → Nat) (n : Nat) : (rootsF f n).length ≤ n := by
  have := List.length_filter_le (fun r => decide (f r = r)) (List.range n)
  rwa [List.length_range] at this
theorem memF_len (f : Nat → Nat) (n r : Nat) : (memF f n r).length ≤ n := by
  have := List.length_filter_le (fun k => decide (f k = r)) (List.range n)
  rwa [List.length_range] at this
/-- the first i keys are gathered in the dict at D; cl tells the lists -/
structure ClsW (f : Nat → Nat) (H H' : Hp) (D : Addr) (i : Nat) (cl : Nat → Addr) : Prop where
  same : Same H H'
  dict : H' D = some (.dK (kvR (rootsF f i) cl))
  cls : ∀ r ∈ rootsF f i, H (cl r) = none ∧ cl r ≠ D ∧ H' (cl r) = some (.lst (natV (memF f i r)))
  inj : ∀ r r', r ∈ rootsF f i → r' ∈ rootsF f i → cl r = cl r' → r = r'
section
variable {f : Nat → Nat} {H H' H1 : Hp} {D p : Addr} {i : Nat} {cl : Nat → Addr}
theorem ClsW.mono (w : ClsW f H H' D i cl) (S : Same H' H1) : ClsW f H H1 D i cl := ⟨w.same.trans S, S _ _ w.dict, fun r hr => let ⟨a, b, c⟩ := w.cls r hr; ⟨a, b, S _ _ c⟩, w.inj⟩
/-- a key that is a root: a new class -/
theorem ClsW.new (w : ClsW f H H' D i cl) (hle : ∀ x, x < i → f x ≤ x) (hD : H D = none) (hr : f i = i) (hp : H' p = none) {H2 : Hp} (S : Same H' H2) : ClsW f H (upd (upd H2 D (.dK (putK (kvR (rootsF f i) cl) (Sum.inl (i : Int) : Key) (.ref p)))) p (.lst [.int (i : Nat)])) D (i + 1) (fun x => if x = i then p else cl x) := by
  have hn : i ∉ rootsF f i := fun z => by have := (mem_rootsF.mp z).1; omega
  have er : rootsF f (i + 1) = rootsF f i ++ [i] := by rw [rootsF_succ, if_pos hr]
  have pH : H p = none := by
    cases e : H p with
    | none => rfl
    | some o => rw [w.same _ _ e] at hp; cases hp
  have pD : p ≠ D := fun z => by subst z; rw [w.dict] at hp; cases hp
  have pc : ∀ r ∈ rootsF f i, cl r ≠ p := fun r hr z => by
    have := (w.cls r hr).2.2
    rw [z, hp] at this
    cases this
  have keep : ∀ b o, b ≠ p → b ≠ D → H' b = some o → upd (upd H2 D (.dK (putK (kvR (rootsF f i) cl) (Sum.inl (i : Int) : Key) (.ref p)))) p (.lst [.int (i : Nat)]) b = some o := fun b o h1 h2 h => by
    rw [upd_ne h1, upd_ne h2]
    exact S _ _ h
  have ne : ∀ r ∈ rootsF f i, r ≠ i := fun r hr z => hn (z ▸ hr)
  refine ⟨fun b o e => keep b o (ne_of_none e pH) (ne_of_none e hD) (w.same _ _ e), ?_, fun r hr' => ?_, fun r r' h1 h2 => ?_⟩
  · rw [upd_ne (Ne.symm pD), upd_same, kvR_put p hn, er]
  · rw [er] at hr'
    rcases List.mem_append.mp hr' with hr' | hr'
    · obtain ⟨a, b, c⟩ := w.cls r hr'
      have e := ne r hr'
      simp only [if_neg e]
      refine ⟨a, b, ?_⟩
      rw [memF_succ, if_neg (by omega)]
      exact keep _ _ (pc r hr') b c
    · have e := List.mem_singleton.mp hr'
      subst e
      simp only [if_pos]
      refine ⟨pH, pD, ?_⟩
      have none' : memF f r r = [] := by
        cases h : memF f r r with
        | nil => rfl
        | cons x l =>
          have hx : x ∈ memF f r r := by rw [h]; exact List.mem_cons_self
          obtain ⟨x1, x2⟩ := mem_memF.mp hx
          have := hle x x1
          omega
      rw [memF_succ, if_pos hr, none', upd_same]
      rfl
  · rw [er] at h1 h2
    rcases List.mem_append.mp h1 with h1 | h1 <;> rcases List.mem_append.mp h2 with h2 | h2
    · simp only [if_neg (ne r h1), if_neg (ne r' h2)]
      exact w.inj r r' h1 h2
    · have e := List.mem_singleton.mp h2
      subst e
      simp only [if_neg (ne r h1), if_pos]
      exact fun z => absurd z (pc r h1)
    · have e := List.mem_singleton.mp h1
      subst e
      simp only [if_neg (ne r' h2), if_pos]
      exact fun z => absurd z.symm (pc r' h2)
    · intro _
      rw [List.mem_singleton.mp h1, List.mem_singleton.mp h2]
end
end L2.Px
set_option Elab.async false
set_option linter.all false
set_option maxRecDepth 100000
set_option maxHeartbeats 1000000
namespace L2.Px
open PySem PySem.Spec PyProof.Rows StX TL
section
variable {J : It} {n : Nat} {it : Nat → V} {H1 : Hp} {tt : TT} {te : TE} {vs : List Nat} {σ : St} {D : Addr} {Qd : Hp → Prop} {j : Nat}
/-- ys answers the numbers is, one by one -/
def Ans (Rl : Nat → V → Hp → Prop) (H : Hp) (is : List Nat) (ys : List V) : Prop := ys.length = is.length ∧ ∀ (k i : Nat), is[k]? = some i → ∃ y, ys[k]? = some y ∧ Rl i y H
theorem Ans.snoc {Rl : Nat → V → Hp → Prop} {H H' : Hp} {is : List Nat} {ys : List V} (a : Ans Rl H is ys) {i : Nat} {y : V} (m : ∀ i y, Rl i y H → Rl i y H') (r : Rl i y H') : Ans Rl H' (is ++ [i]) (ys ++ [y]) := by
  refine ⟨by simp [a.1], fun k x hk => ?_⟩
  by_cases h : k < is.length
  · rw [List.getElem?_append_left h] at hk
    obtain ⟨z, h1, h2⟩ := a.2 k x hk
    exact ⟨z, by rw [List.getElem?_append_left (by rw [a.1]; exact h)]; exact h1, m _ _ h2⟩
  · have hl : k < (is ++ [i]).length := (List.getElem?_eq_some_iff.mp hk).1
    have hk0 : k = is.length := by simp at hl; omega
    subst hk0
    rw [List.getElem?_append_right (Nat.le_refl _), Nat.sub_self] at hk
    cases hk
    exact ⟨y, by rw [List.getElem?_append_right (by rw [a.1]; exact Nat.le_refl _), a.1, Nat.sub_self]; rfl, r⟩
theorem Ans.mono {Rl : Nat → V → Hp → Prop} {H H' : Hp} {is : List Nat} {ys : List V} (a : Ans Rl H is ys) (m : ∀ i y, Rl i y H → Rl i y H') : Ans Rl H' is ys := ⟨a.1, fun k i hk => let ⟨y, h1, h2⟩ := a.2 k i hk; ⟨y, h1, m _ _ h2⟩⟩
end
theorem rootsF_nodup (f : Nat → Nat) (n : Nat) : (rootsF f n).Nodup := List.nodup_range.filter _
theorem natV_drop (L : List Nat) (n : Nat) : (natV L).drop n = natV (L.drop n) := by unfold natV; rw [List.map_drop]
section
variable {K : PySem.W.Frag} {H H' : Hp} {l p F : Addr} {cs ds : List (Nat × Nat)} {n : Nat} {Q : VK}
theorem ChAt.but (h : ChAt K H l cs n) (B : But F H H') {xs : List V} (hF : H F = some (.lst xs)) (ne : l ≠ F) : ChAt K H' l cs n := by
  obtain ⟨xs, e, hl, hx⟩ := h
  exact ⟨xs, B _ _ ne e, hl, fun i c hc => let ⟨h1, h2, h3, T, h4, h5⟩ := hx i c hc; ⟨h1, h2, h3, T, h4, B _ _ (fun z => by subst z; rw [hF] at h5; cases h5) h5⟩⟩
/-- two lists of changes behind one another -/
theorem ChAt.app {xs ys : List V} (hx : H F = some (.lst xs)) (hy : H l = some (.lst ys)) (h : ChAt K H F cs n) (g : ChAt K H l ds n) : ChAt K (upd H F (.lst (xs ++ ys))) F (cs ++ ds) n := by
  obtain ⟨xs', e, h1, h2⟩ := h
  rw [hx] at e
  cases e
  obtain ⟨ys', e, g1, g2⟩ := g
  rw [hy] at e
  cases e
  have nt : ∀ {T : Addr} {zs : List V}, H T = some (.tup zs) → upd H F (.lst (xs ++ ys)) T = some (.tup zs) := fun {T zs} q => by
    rw [upd_ne fun z => by subst z; rw [hx] at q; cases q]; exact q
  refine ⟨_, upd_same, by simp [h1, g1], fun i c hc => ?_⟩
  by_cases hi : i < cs.length
  · rw [List.getElem?_append_left hi] at hc
    obtain ⟨a1, a2, a3, T, a4, a5⟩ := h2 i c hc
    exact ⟨a1, a2, a3, T, by rw [List.getElem?_append_left (by omega)]; exact a4, nt a5⟩
  · rw [List.getElem?_append_right (by omega)] at hc
    obtain ⟨a1, a2, a3, T, a4, a5⟩ := g2 _ c hc
    exact ⟨a1, a2, a3, T, by rw [List.getElem?_append_right (by omega), h1]; exact a4, nt a5⟩
end
end L2.Px
set_option Elab.async false
set_option linter.all false
set_option maxRecDepth 100000
set_option maxHeartbeats 2000000
namespace L2.Px
open PySem PySem.Spec PyProof.Rows StX TL
section
variable {K : PySem.W.Frag} {CI CT CP : Addr} {H H' H1 : Hp} {a b l r p : Addr} {L M : List Nat} {Q : VK} {E : XK} {cs ds : List (Nat × Nat)} {cl : List (List Nat)} {i j : Int} {ss tt : List Stp} {n c : Nat} {X : Cx}
theorem ClsAt.get (h : ClsAt H l cl) {i : Nat} {c : List Nat} (hc : cl[i]? = some c) : ∃ as : List Addr, H l = some (.lst (as.map V.ref)) := let ⟨as, e, _⟩ := h; ⟨as, e⟩
theorem ChAt.drop {xs : List V} (h : ChAt K H l cs n) (hx : H l = some (.lst xs)) (j : Nat) (e : H p = some (.lst (xs.drop j))) : ChAt K H p (cs.drop j) n := by
  obtain ⟨xs', ex, hl, hc⟩ := h
  rw [hx] at ex
  cases ex
  exact ⟨_, e, by rw [List.length_drop, List.length_drop, hl], fun i c hi => by rw [List.getElem?_drop] at hi ⊢; exact hc _ c hi⟩
variable (K CT CP)
variable {K CT CP}
end
end L2.Px
set_option Elab.async false
set_option linter.all false
set_option maxRecDepth 100000
set_option maxHeartbeats 2000000
namespace L2.Px
open PySem PySem.Spec PyProof.Rows StX TL
end L2.Px
set_option Elab.async false
set_option linter.all false
set_option maxRecDepth 100000
set_option maxHeartbeats 1000000
namespace L2.Px
open PySem PySem.Spec PyProof.Rows StX TL ClX
/-- v as a step of a text of n places: b whether it is one -/
def StVal (K : PySem.W.Frag) (H : Hp) (n : Int) (v : V) (b : Bool) : Prop := (NoSeq v ∧ b = false) ∨ ∃ a xs, v = .ref a ∧ (∀ x ∈ xs, NoSeq x ∧ ∀ z, x = .str z → z.length ≤ sizeLine) ∧ ((SqT K H a xs ∧ b = isSt n xs) ∨ (SqL K H a xs ∧ b = false))
/-- the values rs are no steps of a text -/
def Rej (K : PySem.W.Frag) (CIS CTL : Addr) (E : XK) (H : Hp) (rs : List V) : Prop := ∃ (ss : List Stp) (v : V), StepsAt K H (rs.take ss.length) ss ∧ okFrom 0 ss ∧ rs[ss.length]? = some v ∧ ss.length ≤ 30 ∧
  (((ss.length = 30 ∨ StVal K H (sz ss : Nat) v false) ∧ ∀ d H', Same H H' → H' d = some (.xd [("index", .int (ss.length : Nat))]) → E (.ref CIS) (some d) H') ∨
    ∃ s, StepAt K H v s ∧ okStep (sz ss) s ∧ ss.length < 30 ∧ 1000000000000000000 < sz ss + len1 s ∧ ∀ H', Same H H' → E (.ref CTL) none H')
section
variable {K : PySem.W.Frag} {CIS CTL CT CP : Addr} {E : XK} {H H' : Hp} {rs : List V} {v : V} {n : Int} {b : Bool} {Q : VK}
theorem StVal.mono (e : Same H H') (h : StVal K H n v b) : StVal K H' n v b := by
  rcases h with h | ⟨a, xs, ev, hx, h | h⟩
  · exact .inl h
  · exact .inr ⟨a, xs, ev, hx, .inl ⟨Same.tup e h.1, h.2⟩⟩
  · exact .inr ⟨a, xs, ev, hx, .inr ⟨e.seq h.1, h.2⟩⟩
theorem Rej.mono (e : Same H H') (h : Rej K CIS CTL E H rs) : Rej K CIS CTL E H' rs := by
  obtain ⟨ss, v, h1, h2, h3, h4, h5⟩ := h
  refine ⟨ss, v, h1.mono e, h2, h3, h4, ?_⟩
  rcases h5 with ⟨h5, h6⟩ | ⟨s, a1, a2, a3, a4, a5⟩
  · exact .inl ⟨h5.imp id (·.mono e), fun d H'' S hd => h6 d H'' (e.trans S) hd⟩
  · exact .inr ⟨s, a1.mono e, a2, a3, a4, fun H'' S => a5 H'' (e.trans S)⟩
end
theorem StepAt.val {K : PySem.W.Frag} {H : Hp} {v : V} {s : Stp} {n : Nat} (h : StepAt K H v s) (ok : okStep n s) : StVal K H (n : Nat) v true := by
  obtain ⟨a, rfl, hq⟩ := h
  refine .inr ⟨a, stV s, rfl, fun x hx => ⟨stV_noseq s x hx, fun z hz => ?_⟩, .inl ⟨hq, ?_⟩⟩
  · subst hz
    cases s with
    | wr w =>
      simp only [stV, List.mem_cons, List.not_mem_nil, or_false, V.str.injEq] at hx
      rcases hx with rfl | rfl
      · rw [sizeLine_eq]; decide
      · exact str_small ok.2.1
    | pa f l t =>
      simp only [stV, List.mem_cons, List.not_mem_nil, or_false, V.str.injEq, reduceCtorEq] at hx
      subst hx
      rw [sizeLine_eq]; decide
  · cases s with
    | wr w =>
      have e : isWd (.str w) = true := decide_eq_true (by rw [← len_tl]; exact ok)
      simp [stV, isSt, e]
    | pa f l t =>
      obtain ⟨o1, o2, o3, o4⟩ := ok
      have e1 : isInt 0 ((n : Int) - 1) (.int l) = true := decide_eq_true (by omega)
      have e2 : isInt 0 (l : Int) (.int f) = true := decide_eq_true (by omega)
      have e3 : isInt 1 1000000000 (.int t) = true := decide_eq_true (by omega)
      simp [stV, isSt, e1, e2, e3, intOf]
end L2.Px
set_option Elab.async false
set_option linter.all false
set_option maxRecDepth 100000
set_option maxHeartbeats 1000000
namespace L2.Px
open PySem PySem.Spec PyProof.Rows StX TL ClX LamX
def sp_lawL (K : PySem.W.Frag) (T : List (Addr × Str)) : Sp := fun vs H Q _ => ∃ (a : Addr) (sc : List Int), vs = [.ref a] ∧ SqL K H a (sc.map V.int) ∧ Tabs T H ∧ ∀ H', Q (.bl true) H'
section
variable {K : PySem.W.Frag} {CT CP : Addr} {H H' H1 : Hp} {Q : VK} {E : XK} {a b r p q : Addr} {ss tt : List Stp} {i j : Int} {v : V} {o : HO} {xs : List V} {L : List Nat} {T : List (Addr × Str)}
theorem Kl.at_ (e : Kl T H H') (n : ¬ isRow o) (m : ∀ ps, o ≠ .tbl ps) (h : H a = some o) : H' a = some o := e.keep a o n m h
theorem StepAt.kl {s : Stp} (h : StepAt K H v s) (e : Kl T H H') : StepAt K H' v s := let ⟨a, ev, q⟩ := h; ⟨a, ev, e.tup q⟩
theorem StepsAt.kl {ms : List V} (h : StepsAt K H ms ss) (e : Kl T H H') : StepsAt K H' ms ss := ⟨h.1, fun j s q => let ⟨v, a, b⟩ := h.2 j s q; ⟨v, a, b.kl e⟩⟩
theorem PartAt.kl {n y : Nat} {s : Stp} (h : PartAt CP H v n y s) (e : Kl T H H') : PartAt CP H' v n y s := by
  cases s with
  | wr w => obtain ⟨p, dx, ev, q⟩ := h; exact ⟨p, dx, ev, e.keep _ _ nr_ins (fun _ z => nomatch z) q⟩
  | pa f l t => obtain ⟨p, dx, ev, q⟩ := h; exact ⟨p, dx, ev, e.keep _ _ nr_ins (fun _ z => nomatch z) q⟩
theorem PartsAt.kl {ps : List V} (h : PartsAt CP H ps ss) (e : Kl T H H') : PartsAt CP H' ps ss := ⟨h.1, fun j s q => let ⟨v, a, b⟩ := h.2 j s q; ⟨v, a, b.kl e⟩⟩
theorem TextAt.kl {t : TxI} (h : TextAt K CT CP H a t) (e : Kl T H H') : TextAt K CT CP H' a t :=
  ⟨e.keep _ _ nr_ins (fun _ z => nomatch z) h.ins, e.tup h.made, h.stp.kl e, e.keep _ _ (nr_refs h.prt.refs) (fun _ z => nomatch z) h.pls, h.prt.kl e, h.ok, h.few⟩
theorem TX.kl (h : TX K CT CP H a ss) (e : Kl T H H') : TX K CT CP H' a ss := let ⟨t, x, y⟩ := h; ⟨t, x.kl e, y⟩
theorem TS'.kl (h : TS' K H a ss) (e : Kl T H H') : TS' K H' a ss := let ⟨ms, x, y⟩ := h; ⟨ms, e.tup x, y.kl e⟩
theorem SX.kl (h : SX K H a ss) (e : Kl T H H') : SX K H' a ss := let ⟨ms, x, y⟩ := h; ⟨ms, x.imp (e.tup ·) (e.keep _ _ (nr_refs y.refs) (fun _ z => nomatch z) ·), y.kl e⟩
theorem kl_natV {l : Addr} (h : H l = some (.lst (natV L))) (k : Kl T H H') : H' l = some (.lst (natV L)) := k.keep _ _ nr_natV (fun _ z => nomatch z) h
theorem kl_sgV {l : Addr} (h : H l = some (.lst (sgV L))) (k : Kl T H H') : H' l = some (.lst (sgV L)) := k.keep _ _ nr_sgV (fun _ z => nomatch z) h
/-- x(lambda: body): made and run -/
theorem rd_giv {X : Cx} {k : Nat} {TT : (XK → Hp → VK → Prop) → Hp → VK → Prop} {t : XK → TE} {σ : St} (hT : Tabs T H) (h : ∀ H1, Kx T H H1 → TT (fun E H' Q' => t E σ H' Q') H1 Q) : tGiv X k TT (tMkL T (IsLam X k t)) σ H Q :=
  ⟨hT, fun f H1 kl _ il => ⟨f, t, rfl, il, h H1 kl⟩⟩
variable {CIP CIK CIL CIN CTL CIS : Addr}
end
end L2.Px
set_option Elab.async false
set_option linter.all false
set_option maxRecDepth 100000
set_option maxHeartbeats 1000000
namespace L2.Px
open PySem PySem.Spec PyProof.Rows StX TL
section
variable (K : PySem.W.Frag)
def sp_x_law_dice : Sp := fun vs H Q _ => ∃ (a : Addr) (sc : List Int), vs = [.ref a] ∧ SqL K H a (sc.map V.int) ∧ ∀ r H', Same H H' → H r = none → RowAt K H' r → Q (.ref r) H'
def sp_x_law_next : Sp := fun vs H Q _ => ∃ (r : Addr) (many : Nat), vs = [.ref r, .int many] ∧ RowAt K H r ∧ 1 ≤ many ∧ many < 4611686018427387904 ∧ ∀ (n : Nat) H', n < many → Kp H H' → RowAt K H' r → Q (.int n) H'
def sp_x_law_pick : Sp := fun vs H Q _ => ∃ (r l : Addr) (xs : List V), vs = [.ref r, .ref l] ∧ RowAt K H r ∧ SqL K H l xs ∧ (SqL K H l xs → ∀ H', Kp H H' → SqL K H' l xs) ∧ 1 ≤ xs.length ∧ xs.length ≤ sizeLine ∧ ∀ (n : Nat) v H', xs[n]? = some v → Kp H H' → RowAt K H' r → Q v H'
def sp_x_law_wordD : Sp := fun vs H Q _ => ∃ (r : Addr), vs = [.ref r] ∧ RowAt K H r ∧ ∀ (w : Str) H', okWord w 4 → Kp H H' → RowAt K H' r → Q (.str w) H'
end
section
variable {K : PySem.W.Frag} {H H' H1 H2 : Hp} {Q : VK} {E : XK} {r l D : Addr} {i : Int} {xs : List V}
theorem rd_dice {a : Addr} {sc : List Int} (h : SqL K H a (sc.map V.int)) (q : ∀ r H', Same H H' → H r = none → RowAt K H' r → Q (.ref r) H') : sp_x_law_dice K [.ref a] H Q E := ⟨a, sc, rfl, h, q⟩
theorem rd_nextD (row : RowAt K H r) (h1 : 1 ≤ i) (h2 : i < 4611686018427387904) (q : ∀ (n : Nat) H', (n : Int) < i → Kp H H' → RowAt K H' r → Q (.int n) H') : sp_x_law_next K [.ref r, .int i] H Q E :=
  ⟨r, i.toNat, by rw [Int.toNat_of_nonneg (by omega)], row, by omega, by omega, fun n H' hn k w => q n H' (by omega) k w⟩
theorem rd_pick (row : RowAt K H r) (h : SqL K H l xs) (nr : ¬ isRow (.lst xs)) (h1 : 1 ≤ xs.length) (h2 : xs.length ≤ 1000) (q : ∀ (n : Nat) v H', xs[n]? = some v → Kp H H' → RowAt K H' r → Q v H') : sp_x_law_pick K [.ref r, .ref l] H Q E :=
  ⟨r, l, xs, rfl, row, h, fun h H' k => k.lst nr h, h1, by rw [sizeLine_eq]; omega, q⟩
theorem rd_wordD (row : RowAt K H r) (q : ∀ (w : Str) H', okWord w 4 → Kp H H' → RowAt K H' r → Q (.str w) H') : sp_x_law_wordD K [.ref r] H Q E := ⟨r, rfl, row, q⟩
theorem RowAt.via (h1 : RowAt K H1 r) (k : Kp H1 H2) (h : RowAt K H' r) (e : H2 r = H' r) : RowAt K H2 r := by
  obtain ⟨sa, sc, i, s, n, a, b⟩ := h1.ex
  obtain ⟨i', s', n', a2⟩ := k.rows r sa i s n a
  obtain ⟨sa2, sc2, i2, s2, n2, c, d⟩ := h.ex
  rw [← e, a2] at c
  cases c
  exact ⟨sa, sc, i2, s', n', a2, k.lst nr_ints b⟩
theorem RowAt.ne (h : RowAt K H r) (hD : H D = none) : r ≠ D := fun z => by
  subst z
  obtain ⟨sa, sc, i, s, n, a, b⟩ := h.ex
  rw [hD] at a; cases a
end
section
variable {K : PySem.W.Frag} {J : It} {n : Nat} {it : Nat → V} {H1 : Hp} {te : TE} {vs : List Nat} {σ : St} {D r : Addr} {Qd : Hp → Prop} {j : Nat}
/-- [draw for x in range] -/
theorem lc_draw {α : Type} (f : α → V) (hf : ∀ a, isRef (f a) = false) (P : ∀ H, Plain J n it H) (hD : H1 D = none) (hn : n ≤ sizeLine) (hj : ∀ v, wipe ((wipe σ vs).set j (some v)) vs = wipe σ vs) (row : RowAt K H1 r) (Rs : α → Prop)
    (hs : ∀ i H (Q : VK), i < n → Kp H1 H → RowAt K H r → (∀ (s : α) H', Rs s → Kp H H' → RowAt K H' r → Q (f s) H') → te ((wipe σ vs).set j (some (it i))) H Q)
    (hd : ∀ H (ss : List α), Kp H1 H → RowAt K H r → H D = some (.lst (ss.map f)) → ss.length = n → (∀ s ∈ ss, Rs s) → Qd H) : LcW J (gName j) tYes te vs σ H1 D Qd := by
  have nD := row.ne hD
  have nr : ∀ {ss : List α}, ¬ isRow (.lst (ss.map f)) := fun {ss} => nr_vals fun v hv => by obtain ⟨i, _, rfl⟩ := List.mem_map.mp hv; exact hf i
  have k0 : Kp H1 (upd H1 D (.lst [])) := Kp.new Kp.refl hD
  refine ⟨fun i m H => m = n - i ∧ i ≤ n ∧ Kp H1 H ∧ RowAt K H r ∧ ∃ ss : List α, H D = some (.lst (ss.map f)) ∧ ss.length = i ∧ ∀ s ∈ ss, Rs s, ⟨_, rfl, Nat.zero_le _, k0, row.via k0 row (upd_ne nD), [], upd_same, rfl, fun s hs => by cases hs⟩, ?_⟩
  rintro i m H ⟨rfl, hi, k, rw1, ss, eD, hl, hr⟩
  by_cases hlt : i < n
  · refine .inr ⟨(P H).go i H (Same.refl _) hlt, fun H' => i + 1 ≤ n ∧ Kp H1 H' ∧ RowAt K H' r ∧ ∃ ss : List α, H' D = some (.lst (ss.map f)) ∧ ss.length = i + 1 ∧ ∀ s ∈ ss, Rs s, fun H' z => ⟨n - (i + 1), by omega, rfl, z⟩, fun x H' y => ?_⟩
    obtain ⟨e1, e2⟩ := (P H).yld i H x H' (Same.refl _) hlt y
    subst e1 e2
    refine ⟨hj _, ?_⟩
    refine rd_yes (iteT ?_)
    refine hs i H' _ hlt k rw1 fun s H2 h2 k2 row2 => ?_
    have k3 : Kp H1 (upd H2 D (.lst ((ss ++ [s]).map f))) := Kp.mut (k.trans k2) hD
    refine ⟨ss.map f, k2 _ _ nr eD, by rw [List.length_map]; omega, hlt, ?_⟩
    rw [show ss.map f ++ [f s] = (ss ++ [s]).map f by simp]
    exact ⟨k3, row.via k3 row2 (upd_ne nD), ss ++ [s], upd_same, by simp [hl], fun t ht => by
      rcases List.mem_append.mp ht with ht | ht
      · exact hr t ht
      · rw [List.mem_singleton.mp ht]; exact h2⟩
  · have e : i = n := by omega
    subst e
    exact .inl ⟨(P H).stop H (Same.refl _), hd H ss k rw1 eD hl hr⟩
end
end L2.Px
set_option Elab.async false
set_option linter.all false
set_option maxRecDepth 100000
set_option maxHeartbeats 1000000
namespace L2.Px
open PySem PySem.Spec PyProof.Rows StX TL ClX LamX
end L2.Px
namespace L2.Px
open PySem PySem.Spec PyProof.Rows StX TL ClX LamX
end L2.Px
namespace L2.Px
open PySem PySem.Spec PyProof.Rows StX TL ClX LamX
end L2.Px
namespace L2.Px
open PySem PySem.Spec PyProof.Rows StX TL ClX LamX
end L2.Px
set_option Elab.async false
set_option linter.all false
set_option maxRecDepth 100000
set_option maxHeartbeats 1000000
namespace L2.Px
open PySem PySem.Spec PyProof.Rows StX TL ClX LamX
section
variable {K : PySem.W.Frag} {H H' : Hp} {Q : VK} {a p : Addr} {ss : List Stp} {ms xs : List V} {n : Int} {v : V}
theorem TS'.len (h : TS' K H a ss) (q : Q (.int (ss.length : Nat)) H) : rLenA K [.ref a] H Q := by
  obtain ⟨ms, h1, h2⟩ := h
  exact rd_len_tup h1 (by rw [h2.1]; exact q)
/-- a list of values that are no steps for n places -/
def BadL (K : PySem.W.Frag) (H : Hp) (n : Int) (bs : List V) : Prop := ∀ b ∈ bs, StVal K H n b false
theorem BadL.mono {bs : List V} (h : BadL K H n bs) (e : Same H H') : BadL K H' n bs := fun b hb => (h b hb).mono e
theorem StVal.kx {T : List (Addr × Str)} {b : Bool} (h : StVal K H n v b) (e : Kx T H H') : StVal K H' n v b := by
  rcases h with h | ⟨a, xs, ev, hx, h | h⟩
  · exact .inl h
  · exact .inr ⟨a, xs, ev, hx, .inl ⟨e.tup h.1, h.2⟩⟩
  · exact .inr ⟨a, xs, ev, hx, .inr ⟨e.lst h.1, h.2⟩⟩
end
end L2.Px
set_option Elab.async false
set_option linter.all false
set_option maxRecDepth 100000
set_option maxHeartbeats 1000000
namespace L2.Px
open PySem PySem.Spec PyProof.Rows StX ClX LamX
section
variable {K : PySem.W.Frag} {h : Heap} {mg : Str → Option Value} {x qual : Str} {st : Stmt} {ps fs : List Str} {C D CT f : Addr}
theorem exm_mk (h1 : PySem.W.subIn K (.ref C) (.type "BaseException") = some true) (hd : PySem.W.hasDictIn K C = true) (ht : PySem.W.typeIn K (.ref C) = some (.type "type")) (h4 : PySem.W.subIn K (.ref D) (.ref C) = some true) : PySem.W.exmOne K (.ref D) (.ref C) = some true :=
  PySem.W.exm_ref h1 hd ht h4
theorem kit_ve (h : PySem.W.subIn K (.ref D) (.type "ValueError") = some true) : PySem.W.kitOne K (.ref D) (.type "ValueError") = some true := by
  unfold PySem.W.kitOne
  rw [if_neg (by simp)]
  exact h
theorem excC_mk (hg : PySem.W.findIn K (.ref D) "__getattribute__" = some (some (.builtin "BaseException.__getattribute__"))) (hk : PySem.W.findIn K (.ref D) "__getattr__" = some none) (hs : PySem.W.subIn K (.ref D) (.type "BaseException") = some true) (hd : PySem.W.hasDictIn K D = true)
    (ha : PySem.W.findIn K (.ref D) "__class__" = some (some (.builtin "object.__class__"))) (hn : PySem.W.specialIn K (.builtin "object.__class__") "__get__" = some (some (.builtin "getset_descriptor.__get__"))) (ht : PySem.W.takesIn K (.builtin "object.__class__") = some true) (hm : PySem.W.mroIn K D (.type "object") = some true) : ExcC K D :=
  ⟨hg, hk, hs, hd, ha, hn, ht, hm⟩
end
end L2.Px
set_option Elab.async false
set_option linter.all false
set_option maxRecDepth 100000
set_option maxHeartbeats 2000000
namespace L2.Px
open PySem PySem.Spec PyProof.Rows StX ClX LamX
def toW : List Str := ["InvalidStep", "InvalidOperation", "DecodeError", "NotationError", "TooLong", "InvalidPlace", "InvalidLetter", "Contradiction", "InvalidCount"]
def to10 : List Str := ["InvalidStep", "InvalidOperation", "DecodeError", "NotationError", "TooLong", "InvalidPlace", "InvalidLetter", "Contradiction", "InvalidCount", "other"]
theorem to10_at {i : Nat} {w : Str} (h : toW[i]? = some w) : to10[i]? = some w := by
  have hi : i < 9 := (List.getElem?_eq_some_iff.mp h).1
  rw [show to10 = toW ++ [("other" : Str)] from rfl, List.getElem?_append_left hi]; exact h
/-- what _law_told answers of the exception of the class cls, its dict d -/
def ToAns (K : PySem.W.Frag) (CT : Addr) (Cs : List Addr) (cls : Value) (d : Option Addr) (H : Hp) (Q : VK) : Prop := ∃ (i : Nat) (D : Addr) (w : Str), cls = .ref D ∧ RzC K CT Cs i D ∧ toW[i]? = some w ∧
  ((i < 2 ∧ RzF K D "index" ∧ ∃ (dd : Addr) (n : Int) (fs : List (Str × V)), d = some dd ∧ H dd = some (.xd fs) ∧ fs.lookup ("index" : Str) = some (.int n) ∧ ∀ p H', Same H H' → H' p = some (.tup [.str "error", .str w, .int n]) → Q (.ref p) H') ∨
    (i = 2 ∧ RzF K D "offset" ∧ ∃ (dd : Addr) (n : Int) (fs : List (Str × V)), d = some dd ∧ H dd = some (.xd fs) ∧ fs.lookup ("offset" : Str) = some (.int n) ∧ ∀ p H', Same H H' → H' p = some (.tup [.str "error", .str w, .int n]) → Q (.ref p) H') ∨
    (i = 3 ∧ RzF K D "row" ∧ RzF K D "word" ∧ ∃ (dd : Addr) (n m : V) (fs : List (Str × V)), d = some dd ∧ H dd = some (.xd fs) ∧ fs.lookup ("row" : Str) = some n ∧ fs.lookup ("word" : Str) = some m ∧ ∀ p H', Same H H' → H' p = some (.tup [.str "error", .str w, n, m]) → Q (.ref p) H') ∨
    (4 ≤ i ∧ d = none ∧ ∀ p H', Same H H' → H' p = some (.tup [.str "error", .str w]) → Q (.ref p) H'))
theorem ToAns.dict {K : PySem.W.Frag} {CT : Addr} {Cs : List Addr} {cls : Value} {d : Option Addr} {H : Hp} {Q : VK} (h : ToAns K CT Cs cls d H Q) : d = none ∨ ∃ dd fs, d = some dd ∧ H dd = some (.xd fs) := by
  obtain ⟨i, D, w, _, _, _, ⟨_, _, dd, n, fs, e, hx, _⟩ | ⟨_, _, dd, n, fs, e, hx, _⟩ | ⟨_, _, _, dd, n, m, fs, e, hx, _⟩ | ⟨_, e, _⟩⟩ := h
  · exact .inr ⟨dd, fs, e, hx⟩
  · exact .inr ⟨dd, fs, e, hx⟩
  · exact .inr ⟨dd, fs, e, hx⟩
  · exact .inl e
def kb9 (i : Nat) : List Bool := [decide (0 = i), decide (1 = i), decide (2 = i), decide (3 = i), decide (4 = i), decide (5 = i), decide (6 = i), decide (7 = i), decide (8 = i)]
theorem kb9_count : ∀ i, i < 9 → (kb9 i).count true = 1 := by decide
theorem kb9_at : ∀ i, i < 9 → (kb9 i)[i]? = some true := by decide
theorem kb9_no : ∀ i, i < 9 → ∀ m, m < i → (kb9 i)[m]? = some false := by decide
section
variable {K : PySem.W.Frag} {H : Hp} {Q : VK} {l : Addr}
theorem rd_kb9Index {i : Nat} (hi : i < 9) (h : H l = some (.lst ((kb9 i).map V.bl))) (q : Q (.int (i : Nat)) H) : rIndex K (.ref l) [.bl true] H Q := by
  refine ⟨l, (kb9 i).map V.bl, .bl true, i, .bl true, rfl, rfl, SqL.of h, rfl, ?_, ?_, rfl, fun m z hm hz => ?_, q⟩
  · rw [List.all_eq_true]; intro v hv; obtain ⟨b, _, rfl⟩ := List.mem_map.mp hv; rfl
  · rw [List.getElem?_map, kb9_at i hi]; rfl
  · rw [List.getElem?_map, kb9_no i hi m hm] at hz; cases hz; rfl
end
section
variable {X : Cx} {Ng : List Str} {x a xe n : Str} {sg : Scope} {g CS : Addr} {cdg : Value} {b₀ : Stmt} {suite : List Stmt} {i : Nat} {p1 p2 p3 np pos' pos : Pos} {ts : Addr → Value → Option Addr → TS} {Ans : Value → Option Addr → Hp → VK → Prop}
theorem gives_ret (hN : Ng.Nodup) (hi : Ng[i]? = some n) (hln : sg.names.lookup n = some .local) (hge : sg.names.lookup xe = some .globalImplicit) (hme : X.mg xe = some (.ref CS)) (hde : (xe == ("__debug__" : Str)) = false) (h0 : ∀ f : Addr, (start Ng [V.ref f])[0]? = some (some (V.ref f)))
    (hsu : ∀ (s : Shared) (H : Hp), Room 1 (X.A.deeper (envOfC x sg s.heap.objs.size g cdg)) → ∀ (e : Addr) (oe : Obj) (cls : Value) (d : Option Addr) (pn : List (Addr × Obj)), Zc cls d oe → (∃ vs, oe.data = .fields vs) → PSs ((cxOf CX0 X.prog X.w X.K X.mg X.base Ng x sg g cdg X.A X.stack s H E0).nox.suite e ((e, oe) :: pn)) (b₀ :: suite) (ts e cls d))
    (hexm : ∀ cls d H Q, Ans cls d H Q → PySem.W.exmOne X.K cls (.ref CS) = some true)
    (hans : ∀ (cls : Value) (d : Option Addr) (H : Hp) (Q : VK) (f e : Addr) (nx bk ct : St → Hp → Prop), Ans cls d H Q → H e = none → ts e cls d ⟨nx, Q, bk, ct⟩ ((start Ng [.ref f]).set i (some (.ref e))) H) :
    Gives X Ng x sg g cdg [.Try [.Return (some (.Call (.Name a p1) [] [] p2)) p3] [.ExceptHandler (some (.Name xe np)) (some n) (b₀ :: suite) pos'] [] [] pos] a (fun tl H Q => tl (fun cls d H' => Ans cls d H' Q) H Q) := by
  intro f s H Q tl LP hr act hl h
  have hgl : Gl (cxOf CX0 X.prog X.w X.K X.mg X.base Ng x sg g cdg X.A X.stack s H E0).nox xe := hge
  refine ⟨_, pss_one (ps_try_as (X := (cxOf CX0 X.prog X.w X.K X.mg X.base Ng x sg g cdg X.A X.stack s H E0).nox) (c := .ref CS) (i := i) (ts := ts)
      (tb := fun W D σ H => ∃ Ech : XK, σ[0]? = some (some (.ref f)) ∧ LP H ∧ (∀ cls d H', Ech cls d H' → W cls d σ H') ∧ tl Ech H D.rt) rfl rfl hN hi hln ⟨hgl, hde, .inl hme⟩ takes0 (fun W pn xe tk _ => ?_) (fun e oe cls d pn hz hf => hsu s H hr e oe cls d pn hz hf)), ?_⟩
  · refine ⟨fun pins s' σ H' D I ⟨Ech, h1, h2, h3, h4⟩ => ?_⟩
    exact (pss_one (ps_ret (pos := p3) (act W pn xe Ech p1 p2 tk))).run pins s' σ H' D I ⟨h1, h2, h3, h4⟩
  · exact ⟨fun cls d H' => Ans cls d H' Q, h0 f, hl, fun cls d H' hq => ⟨true, hexm _ _ _ _ hq, fun _ e he => hans cls d H' Q f e _ _ _ hq he, fun z => nomatch z⟩, h⟩
end
section
variable {K : PySem.W.Frag} {D C0 C1 C2 C3 C4 C5 C6 C7 C8 : Addr} {i : Nat}
theorem kit_all9 (k0 : PySem.W.kitOne K (.ref D) (.ref C0) = some (decide (0 = i))) (k1 : PySem.W.kitOne K (.ref D) (.ref C1) = some (decide (1 = i))) (k2 : PySem.W.kitOne K (.ref D) (.ref C2) = some (decide (2 = i))) (k3 : PySem.W.kitOne K (.ref D) (.ref C3) = some (decide (3 = i)))
    (k4 : PySem.W.kitOne K (.ref D) (.ref C4) = some (decide (4 = i))) (k5 : PySem.W.kitOne K (.ref D) (.ref C5) = some (decide (5 = i))) (k6 : PySem.W.kitOne K (.ref D) (.ref C6) = some (decide (6 = i))) (k7 : PySem.W.kitOne K (.ref D) (.ref C7) = some (decide (7 = i))) (k8 : PySem.W.kitOne K (.ref D) (.ref C8) = some (decide (8 = i))) :
    ∀ (j : Nat) C, [C0, C1, C2, C3, C4, C5, C6, C7, C8][j]? = some C → PySem.W.kitOne K (.ref D) (.ref C) = some (decide (j = i)) := fun j C hj => by
  match j, hj with
  | 0, hj => cases hj; exact k0
  | 1, hj => cases hj; exact k1
  | 2, hj => cases hj; exact k2
  | 3, hj => cases hj; exact k3
  | 4, hj => cases hj; exact k4
  | 5, hj => cases hj; exact k5
  | 6, hj => cases hj; exact k6
  | 7, hj => cases hj; exact k7
  | 8, hj => cases hj; exact k8
  | j + 9, hj => simp at hj
end
section
variable {K : PySem.W.Frag} {CE C d p q : Addr} {Cs : List Addr} {H : Hp} {Q : VK}
theorem to_word {w : Str} (i : Nat) (hi : 4 ≤ i) (z : RzC K CE Cs i C) (hw : toW[i]? = some w) (k : ∀ p H', Same H H' → H' p = some (.tup [.str "error", .str w]) → Q (.ref p) H') : ToAns K CE Cs (.ref C) none H Q :=
  ⟨i, C, w, rfl, z, hw, .inr (.inr (.inr ⟨hi, rfl, k⟩))⟩
theorem dp_e2 {w z : Str} (h : H p = some (.tup [.str w, .str z])) : Dp K H (.ref p) (.tuple [.str w, .str z]) := .tup (SqT.of h) (.cons (.str w) (.cons (.str z) .nil))
theorem dok_e2 {w z : Str} (hw : PySem.PyData.strOk w = true) (hz : PySem.PyData.strOk z = true) : DOk 1 (.tuple [.str w, .str z]) := .tup fun d hd => by
  simp only [List.mem_cons, List.not_mem_nil, or_false] at hd
  rcases hd with rfl | rfl
  · exact .str hw
  · exact .str hz
theorem rd_neE2 {w z : Str} (h : H p = some (.tup [.str w, .str z])) (g : H q = some (.tup [.str w, .str z])) (hw : PySem.PyData.strOk w = true) (hz : PySem.PyData.strOk z = true) (k : Q (.bl false) H) : rNeA K (.ref p) (.ref q) H Q :=
  rd_ne_same (dp_e2 h) (dp_e2 g) (dok_e2 hw hz) (by decide) k
end
end L2.Px
set_option Elab.async false
set_option linter.all false
set_option maxRecDepth 100000
set_option maxHeartbeats 1000000
namespace L2.Px
open PySem PySem.Spec PyProof.Rows StX TL ClX LamX
structure Km (C : Addr) (T : List (Addr × Str)) (H H' : Hp) : Prop where
  keep : ∀ b o, ¬ isRow o → (∀ ps, o ≠ .tbl ps) → (∀ dx fs, o ≠ .ins C dx fs) → H b = some o → H' b = some o
  rows : ∀ (b sa : Addr) (i s e : Int), H b = some (.lst [.ref sa, .int i, .int s, .int e]) → ∃ i' s' e' : Int, H' b = some (.lst [.ref sa, .int i', .int s', .int e'])
  tabs : Tabs T H → Tabs T H'
section
variable {K : PySem.W.Frag} {CT CP C : Addr} {T : List (Addr × Str)} {H H' H1 : Hp} {a e l : Addr} {o : HO} {v : V} {xs ms ps : List V} {s : Stp} {ss : List Stp} {t : TxI} {L : List Nat} {n y : Nat}
theorem Km.refl : Km C T H H := ⟨fun _ _ _ _ _ h => h, fun _ _ _ _ _ h => ⟨_, _, _, h⟩, id⟩
theorem Km.trans (a : Km C T H H1) (b : Km C T H1 H') : Km C T H H' := ⟨fun c o hc hn hi h => b.keep c o hc hn hi (a.keep c o hc hn hi h), fun c sa i s e h => let ⟨i', s', e', h'⟩ := a.rows c sa i s e h; b.rows c sa i' s' e' h', fun t => b.tabs (a.tabs t)⟩
theorem Km.kl (e : Kl T H H') : Km C T H H' := ⟨fun b o hr ht _ h => e.keep b o hr ht h, e.rows, e.tabs⟩
theorem Km.same (e : Same H H') : Km C T H H' := .kl (.same e)
theorem Km.kp (e : Kp H H') : Km C T H H' := .kl (.kp e)
theorem But.ins {x : Addr} (e : But x H H') {dx : Addr} {fs : List (Str × V)} (hx : H x = some (.ins C dx fs)) (hn : ∀ dx fs, o ≠ .ins C dx fs) (h : H a = some o) : H' a = some o :=
  e a o (fun z => hn dx fs (by subst z; rw [hx] at h; exact (Option.some.inj h).symm)) h
theorem Km.but {x dx : Addr} {fs : List (Str × V)} (e : But x H H') (hx : H x = some (.ins C dx fs)) : Km C T H H' := by
  refine .mk (fun b o _ _ hi h => ?a) (fun b sa i s n h => ?b) (fun t p hp => ?_)
  · exact e.ins hx hi h
  · exact ⟨_, _, _, e.ins hx (fun _ _ z => nomatch z) h⟩
  obtain ⟨ps, h1, h2, h3⟩ := t p hp
  refine ⟨ps, e.ins hx (fun _ _ z => nomatch z) h1, h2, fun pos cv hc => ?_⟩
  obtain ⟨c, h4, h5⟩ := h3 pos cv hc
  exact ⟨c, h4, e.ins hx (fun _ _ z => nomatch z) h5⟩
theorem Km.tup (e : Km C T H H') (h : SqT K H a xs) : SqT K H' a xs := by
  rcases h with (h | ⟨o, h⟩) | h
  · exact .inl (.inl (e.keep _ _ nr_tup (fun ps z => nomatch z) (fun _ _ z => nomatch z) h))
  · exact .inl (.inr ⟨o, e.keep _ _ nr_frz (fun ps z => nomatch z) (fun _ _ z => nomatch z) h⟩)
  · exact .inr h
theorem Km.lst (e : Km C T H H') (n : ¬ isRow (.lst xs)) (h : SqL K H a xs) : SqL K H' a xs := by
  rcases h with (h | ⟨o, h⟩) | h
  · exact .inl (.inl (e.keep _ _ n (fun ps z => nomatch z) (fun _ _ z => nomatch z) h))
  · exact .inl (.inr ⟨o, e.keep _ _ nr_frz (fun ps z => nomatch z) (fun _ _ z => nomatch z) h⟩)
  · exact .inr h
theorem Km.li (e : Km C T H H') (n : ¬ isRow (.lst xs)) (h : H a = some (.lst xs)) : H' a = some (.lst xs) := e.keep _ _ n (fun _ z => nomatch z) (fun _ _ z => nomatch z) h
theorem Km.tu (e : Km C T H H') (h : H a = some (.tup xs)) : H' a = some (.tup xs) := e.keep _ _ nr_tup (fun _ z => nomatch z) (fun _ _ z => nomatch z) h
theorem StepAt.km (h : StepAt K H v s) (e : Km C T H H') : StepAt K H' v s := let ⟨a, ev, q⟩ := h; ⟨a, ev, e.tup q⟩
theorem StepsAt.km (h : StepsAt K H ms ss) (e : Km C T H H') : StepsAt K H' ms ss := ⟨h.1, fun j s q => let ⟨v, a, b⟩ := h.2 j s q; ⟨v, a, b.km e⟩⟩
theorem ins_ne {D dx : Addr} {fs : List (Str × V)} (hn : D ≠ C) : ∀ dx' fs', HO.ins D dx fs ≠ .ins C dx' fs' := fun dx' fs' z => hn (by cases z; rfl)
theorem PartAt.km (hn : CP ≠ C) (h : PartAt CP H v n y s) (e : Km C T H H') : PartAt CP H' v n y s := by
  cases s with
  | wr w => obtain ⟨p, dx, ev, q⟩ := h; exact ⟨p, dx, ev, e.keep _ _ nr_ins (fun _ z => nomatch z) (ins_ne hn) q⟩
  | pa f l t => obtain ⟨p, dx, ev, q⟩ := h; exact ⟨p, dx, ev, e.keep _ _ nr_ins (fun _ z => nomatch z) (ins_ne hn) q⟩
theorem PartsAt.km (hn : CP ≠ C) (h : PartsAt CP H ps ss) (e : Km C T H H') : PartsAt CP H' ps ss := ⟨h.1, fun j s q => let ⟨v, a, b⟩ := h.2 j s q; ⟨v, a, b.km hn e⟩⟩
theorem TextAt.km (hT : CT ≠ C) (hP : CP ≠ C) (h : TextAt K CT CP H a t) (e : Km C T H H') : TextAt K CT CP H' a t :=
  ⟨e.keep _ _ nr_ins (fun _ z => nomatch z) (ins_ne hT) h.ins, e.tup h.made, h.stp.km e, e.keep _ _ (nr_refs h.prt.refs) (fun _ z => nomatch z) (fun _ _ z => nomatch z) h.pls, h.prt.km hP e, h.ok, h.few⟩
theorem TX.km (h : TX K CT CP H a ss) (hT : CT ≠ C) (hP : CP ≠ C) (e : Km C T H H') : TX K CT CP H' a ss := let ⟨t, x, y⟩ := h; ⟨t, x.km hT hP e, y⟩
theorem TS'.km (h : TS' K H a ss) (e : Km C T H H') : TS' K H' a ss := let ⟨ms, x, y⟩ := h; ⟨ms, e.tup x, y.km e⟩
theorem SX.km (h : SX K H a ss) (e : Km C T H H') : SX K H' a ss := let ⟨ms, x, y⟩ := h; ⟨ms, x.imp (e.tup ·) (e.keep _ _ (nr_refs y.refs) (fun _ z => nomatch z) (fun _ _ z => nomatch z) ·), y.km e⟩
theorem But.seqL {x dx : Addr} {fs : List (Str × V)} (e : But x H H') (hx : H x = some (.ins C dx fs)) (h : SqL K H a xs) : SqL K H' a xs := by
  rcases h with (h | ⟨o, h⟩) | h
  · exact .inl (.inl (e.ins hx (fun _ _ z => nomatch z) h))
  · exact .inl (.inr ⟨o, e.ins hx (fun _ _ z => nomatch z) h⟩)
  · exact .inr h
theorem RowAt.but {x dx r : Addr} {fs : List (Str × V)} (h : RowAt K H r) (e : But x H H') (hx : H x = some (.ins C dx fs)) : RowAt K H' r :=
  let ⟨sa, sc, i, s, n, a, b⟩ := h.ex; ⟨sa, sc, i, s, n, e.ins hx (fun _ _ z => nomatch z) a, e.seqL hx b⟩
end
inductive Op where
  | st (s : Stp)
  | re (p c : Nat)
deriving DecidableEq
def opV : Op → List V
  | .st s => stV s
  | .re p c => [.str "retype", .int (p : Nat), .str ⟨#[c]⟩]
def OpAt (K : PySem.W.Frag) (H : Hp) (v : V) (o : Op) : Prop := ∃ a, v = .ref a ∧ SqT K H a (opV o)
/-- the text after an operation -/
def aft (ss : List Stp) : Op → List Stp
  | .st s => ss ++ [s]
  | .re p c => rt (kat ss p) c 0 ss
/-- what an operation answers -/
def opN (ss : List Stp) : Op → Nat
  | .st s => sz (ss ++ [s])
  | .re p c => if lat ss (kat ss p) = c then 0 else cn ss (sz ss) (kat ss p)
def okOp (ss : List Stp) : Op → Prop
  | .st s => okStep (sz ss) s ∧ ss.length < 30 ∧ sz ss + len1 s ≤ 1000000000000000000
  | .re p c => p < sz ss ∧ 97 ≤ c ∧ c ≤ 122
/-- an entry of an editor: the operation, the texts before and after -/
structure Ent where
  o : Op
  b : List Stp
  a : List Stp
def EntAt (K : PySem.W.Frag) (CT CP : Addr) (H : Hp) (v : V) (e : Ent) : Prop := ∃ t o b a, v = .ref t ∧ SqT K H t [o, .ref b, .ref a] ∧ OpAt K H o e.o ∧ TX K CT CP H b e.b ∧ TX K CT CP H a e.a
def EntsAt (K : PySem.W.Frag) (CT CP : Addr) (H : Hp) (ms : List V) (es : List Ent) : Prop := ms.length = es.length ∧ ∀ (j : Nat) e, es[j]? = some e → ∃ v, ms[j]? = some v ∧ EntAt K CT CP H v e
/-- an editor's fields -/
def edF (p d u kp kd ku : V) : List (Str × V) := [("present", p), ("done", d), ("undone", u), ("is_open", .bl false), ("kept_present", kp), ("kept_done", kd), ("kept_undone", ku)]
section
variable {p d u kp kd ku v : V} {f : Str}
theorem putF_hit {g : Str} {v x : V} {r : List (Str × V)} : putF g v ((g, x) :: r) = (g, v) :: r := if_pos rfl
theorem putF_nil {g : Str} {v : V} : putF g v [] = [(g, v)] := rfl
theorem putF_miss {f g : Str} {v x : V} {r : List (Str × V)} (h : g ≠ f) : putF f v ((g, x) :: r) = (g, x) :: putF f v r := if_neg h
theorem edF_present : (edF p d u kp kd ku).lookup ("present" : Str) = some p := by unfold edF; rw [List.lookup_cons_self]
theorem edF_done : (edF p d u kp kd ku).lookup ("done" : Str) = some d := by
  unfold edF; rw [List.lookup_cons, show (("done" : Str) == "present") = false by decide +kernel]; simp only; rw [List.lookup_cons_self]
theorem edF_undone : (edF p d u kp kd ku).lookup ("undone" : Str) = some u := by
  unfold edF; rw [List.lookup_cons, show (("undone" : Str) == "present") = false by decide +kernel]; simp only
  rw [List.lookup_cons, show (("undone" : Str) == "done") = false by decide +kernel]; simp only; rw [List.lookup_cons_self]
theorem edF_no (h : f ≠ "present" ∧ f ≠ "done" ∧ f ≠ "undone" ∧ f ≠ "is_open" ∧ f ≠ "kept_present" ∧ f ≠ "kept_done" ∧ f ≠ "kept_undone") : (edF p d u kp kd ku).lookup f = none := by
  unfold edF
  simp only [List.lookup_cons, beq_false_of_ne h.1, beq_false_of_ne h.2.1, beq_false_of_ne h.2.2.1, beq_false_of_ne h.2.2.2.1, beq_false_of_ne h.2.2.2.2.1, beq_false_of_ne h.2.2.2.2.2.1, beq_false_of_ne h.2.2.2.2.2.2, List.lookup_nil]
/-- as __init__ makes them -/
theorem edF_made {p d u kp kd ku : V} : putF "kept_undone" ku (putF "kept_done" kd (putF "kept_present" kp (putF "is_open" (.bl false) (putF "undone" u (putF "done" d (putF "present" p [])))))) = edF p d u kp kd ku := by
  unfold edF
  rw [putF_nil]
  rw [putF_miss (f := "done") (g := "present") (by decide +kernel), putF_nil]
  rw [putF_miss (f := "undone") (g := "present") (by decide +kernel), putF_miss (f := "undone") (g := "done") (by decide +kernel), putF_nil]
  rw [putF_miss (f := "is_open") (g := "present") (by decide +kernel), putF_miss (f := "is_open") (g := "done") (by decide +kernel), putF_miss (f := "is_open") (g := "undone") (by decide +kernel), putF_nil]
  rw [putF_miss (f := "kept_present") (g := "present") (by decide +kernel), putF_miss (f := "kept_present") (g := "done") (by decide +kernel), putF_miss (f := "kept_present") (g := "undone") (by decide +kernel), putF_miss (f := "kept_present") (g := "is_open") (by decide +kernel), putF_nil]
  rw [putF_miss (f := "kept_done") (g := "present") (by decide +kernel), putF_miss (f := "kept_done") (g := "done") (by decide +kernel), putF_miss (f := "kept_done") (g := "undone") (by decide +kernel), putF_miss (f := "kept_done") (g := "is_open") (by decide +kernel), putF_miss (f := "kept_done") (g := "kept_present") (by decide +kernel), putF_nil]
  rw [putF_miss (f := "kept_undone") (g := "present") (by decide +kernel), putF_miss (f := "kept_undone") (g := "done") (by decide +kernel), putF_miss (f := "kept_undone") (g := "undone") (by decide +kernel), putF_miss (f := "kept_undone") (g := "is_open") (by decide +kernel), putF_miss (f := "kept_undone") (g := "kept_present") (by decide +kernel), putF_miss (f := "kept_undone") (g := "kept_done") (by decide +kernel), putF_nil]
end
/-- an editor: its text, what is done and what is undone -/
structure EdI where
  dx : Addr
  p : Addr
  d : Addr
  u : Addr
  kp : V
  kd : V
  ku : V
  dm : List V
  um : List V
  ss : List Stp
  ds : List Ent
  us : List Ent
structure EdAtI (K : PySem.W.Frag) (CT CP CE : Addr) (H : Hp) (e : Addr) (i : EdI) : Prop where
  ins : H e = some (.ins CE i.dx (edF (.ref i.p) (.ref i.d) (.ref i.u) i.kp i.kd i.ku))
  tx : TX K CT CP H i.p i.ss
  dn : SqT K H i.d i.dm
  de : EntsAt K CT CP H i.dm i.ds
  un : SqT K H i.u i.um
  ue : EntsAt K CT CP H i.um i.us
def EdAt (K : PySem.W.Frag) (CT CP CE : Addr) (H : Hp) (e : Addr) (ss : List Stp) (ds us : List Ent) : Prop := ∃ i, EdAtI K CT CP CE H e i ∧ i.ss = ss ∧ i.ds = ds ∧ i.us = us
section
variable {K : PySem.W.Frag} {CT CP CE C : Addr} {T : List (Addr × Str)} {H H' : Hp} {a e x : Addr} {v : V} {o : Op} {en : Ent} {es ds us : List Ent} {ms : List V} {ss : List Stp} {i : EdI}
theorem OpAt.km (h : OpAt K H v o) (k : Km C T H H') : OpAt K H' v o := let ⟨a, ev, q⟩ := h; ⟨a, ev, k.tup q⟩
theorem EntAt.km (hT : CT ≠ C) (hP : CP ≠ C) (h : EntAt K CT CP H v en) (k : Km C T H H') : EntAt K CT CP H' v en := let ⟨t, o, b, a, ev, q, h1, h2, h3⟩ := h; ⟨t, o, b, a, ev, k.tup q, h1.km k, h2.km hT hP k, h3.km hT hP k⟩
theorem EntsAt.km (hT : CT ≠ C) (hP : CP ≠ C) (h : EntsAt K CT CP H ms es) (k : Km C T H H') : EntsAt K CT CP H' ms es := ⟨h.1, fun j s q => let ⟨v, a, b⟩ := h.2 j s q; ⟨v, a, b.km hT hP k⟩⟩
theorem EntsAt.nil : EntsAt K CT CP H [] [] := ⟨rfl, fun _ _ h => by simp at h⟩
theorem EntsAt.snoc (h : EntsAt K CT CP H ms es) (g : EntAt K CT CP H v en) : EntsAt K CT CP H (ms ++ [v]) (es ++ [en]) := by
  refine ⟨by simp [h.1], fun j s hj => ?_⟩
  rcases Nat.lt_or_ge j es.length with z | z
  · rw [List.getElem?_append_left z] at hj
    obtain ⟨v', a, b⟩ := h.2 j s hj
    exact ⟨v', by rw [List.getElem?_append_left (by rw [h.1]; exact z)]; exact a, b⟩
  · have e : j = es.length := by
      have := (List.getElem?_eq_some_iff.mp hj).1
      rw [List.length_append, List.length_singleton] at this; omega
    subst e
    rw [List.getElem?_append_right (Nat.le_refl _), Nat.sub_self] at hj
    cases hj
    exact ⟨v, by rw [← h.1, List.getElem?_append_right (Nat.le_refl _), Nat.sub_self]; rfl, g⟩
theorem EdAtI.same (h : EdAtI K CT CP CE H e i) (k : Same H H') : EdAtI K CT CP CE H' e i := by
  refine ⟨k _ _ h.ins, h.tx.kp (.same k), (Same.tup k h.dn), ⟨h.de.1, fun j s q => ?_⟩, (Same.tup k h.un), ⟨h.ue.1, fun j s q => ?_⟩⟩
  · obtain ⟨v, a, t, o, b, c, ev, z, ⟨oa, h0, h1⟩, h2, h3⟩ := h.de.2 j s q
    exact ⟨v, a, t, o, b, c, ev, (Same.tup k z), ⟨oa, h0, (Same.tup k h1)⟩, h2.kp (.same k), h3.kp (.same k)⟩
  · obtain ⟨v, a, t, o, b, c, ev, z, ⟨oa, h0, h1⟩, h2, h3⟩ := h.ue.2 j s q
    exact ⟨v, a, t, o, b, c, ev, (Same.tup k z), ⟨oa, h0, (Same.tup k h1)⟩, h2.kp (.same k), h3.kp (.same k)⟩
theorem EdAt.same (h : EdAt K CT CP CE H e ss ds us) (k : Same H H') : EdAt K CT CP CE H' e ss ds us := let ⟨i, a, b⟩ := h; ⟨i, a.same k, b⟩
/-- another editor changes -/
theorem EdAtI.km (hT : CT ≠ CE) (hP : CP ≠ CE) (h : EdAtI K CT CP CE H e i) (k : Km CE T H H') (hi : H' e = H e) : EdAtI K CT CP CE H' e i :=
  ⟨hi.trans h.ins, h.tx.km hT hP k, k.tup h.dn, h.de.km hT hP k, k.tup h.un, h.ue.km hT hP k⟩
theorem EdAt.km (hT : CT ≠ CE) (hP : CP ≠ CE) (h : EdAt K CT CP CE H e ss ds us) (k : Km CE T H H') (hi : H' e = H e) : EdAt K CT CP CE H' e ss ds us := let ⟨i, a, b⟩ := h; ⟨i, a.km hT hP k hi, b⟩
theorem EdAt.kl (hT : CT ≠ CE) (hP : CP ≠ CE) (h : EdAt K CT CP CE H e ss ds us) (k : Kl T H H') : EdAt K CT CP CE H' e ss ds us := by
  obtain ⟨i, a, b⟩ := h
  exact ⟨i, a.km hT hP (.kl k) ((k.keep _ _ nr_ins (fun _ z => nomatch z) a.ins).trans a.ins.symm), b⟩
theorem EdAt.kp (hT : CT ≠ CE) (hP : CP ≠ CE) (h : EdAt K CT CP CE H e ss ds us) (k : Kp H H') : EdAt K CT CP CE H' e ss ds us := h.kl (T := []) hT hP (.kp k)
theorem EdAt.but (hT : CT ≠ CE) (hP : CP ≠ CE) (h : EdAt K CT CP CE H e ss ds us) (k : But x H H') (hx : H x = some (.ins C (i.dx) (edF (.ref i.p) (.ref i.d) (.ref i.u) i.kp i.kd i.ku))) (hC : C = CE) (ne : e ≠ x) : EdAt K CT CP CE H' e ss ds us := by
  subst hC
  obtain ⟨j, a, b⟩ := h
  exact ⟨j, a.km hT hP (Km.but (T := []) k hx) ((k _ _ ne a.ins).trans a.ins.symm), b⟩
theorem EdAt.insA (h : EdAt K CT CP CE H e ss ds us) : InsA H e CE := let ⟨_, a, _⟩ := h; ⟨_, _, a.ins⟩
theorem EdAt.insM {m : Str} (h : EdAt K CT CP CE H e ss ds us) (hm : m ≠ "present" ∧ m ≠ "done" ∧ m ≠ "undone" ∧ m ≠ "is_open" ∧ m ≠ "kept_present" ∧ m ≠ "kept_done" ∧ m ≠ "kept_undone" := by decide +kernel) : InsM H e CE m := let ⟨_, a, _⟩ := h; ⟨_, _, a.ins, edF_no hm⟩
end
section
variable (K : PySem.W.Frag) (CIS CTL CIP CIL CT CP CE : Addr)
/-- a step, its values xs, is added to the text of the editor e -/
def AddOut (H : Hp) (e : Addr) (ss : List Stp) (ds : List Ent) (xs : List V) (Q : VK) (E : XK) : Prop :=
  (∃ s, xs = stV s ∧ okStep (sz ss) s ∧ ss.length < 30 ∧ sz ss + len1 s ≤ 1000000000000000000 ∧ ∀ H', But e H H' → EdAt K CT CP CE H' e (ss ++ [s]) (ds ++ [⟨.st s, ss, ss ++ [s]⟩]) [] → Q (.int (sz (ss ++ [s]) : Nat)) H') ∨
  ((ss.length = 30 ∨ isSt (sz ss) xs = false) ∧ ∀ d H', Same H H' → H' d = some (.xd [("index", .int (ss.length : Nat))]) → E (.ref CIS) (some d) H') ∨
  (∃ s, xs = stV s ∧ okStep (sz ss) s ∧ ss.length < 30 ∧ 1000000000000000000 < sz ss + len1 s ∧ ∀ H', Same H H' → E (.ref CTL) none H')
def RetOut (H : Hp) (e : Addr) (ss : List Stp) (ds : List Ent) (p l : V) (Q : VK) (E : XK) : Prop :=
  (∃ i c : Nat, p = .int (i : Nat) ∧ l = .str ⟨#[c]⟩ ∧ i < sz ss ∧ 97 ≤ c ∧ c ≤ 122 ∧ ∀ H', But e H H' → EdAt K CT CP CE H' e (aft ss (.re i c)) (ds ++ [⟨.re i c, ss, aft ss (.re i c)⟩]) [] → Q (.int (opN ss (.re i c) : Nat)) H') ∨
  (isInt 0 ((sz ss : Int) - 1) p = false ∧ ∀ H', Same H H' → E (.ref CIP) none H') ∨
  (isInt 0 ((sz ss : Int) - 1) p = true ∧ isLet l = false ∧ ∀ H', Same H H' → E (.ref CIL) none H')
def sp_Editor_init : Sp := fun vs H Q _ => ∃ x dx m rs ss, vs = [.ref x, .ref m] ∧ H x = some (.ins CE dx []) ∧ SqT K H m rs ∧ StepsAt K H rs ss ∧ okFrom 0 ss ∧ ss.length ≤ 30 ∧ ∀ H', But x H H' → EdAt K CT CP CE H' x ss [] [] → Q .non H'
def OpsAt (K : PySem.W.Frag) (H : Hp) (ms : List V) (os : List Op) : Prop := ms.length = os.length ∧ ∀ (j : Nat) o, os[j]? = some o → ∃ v, ms[j]? = some v ∧ OpAt K H v o
/-- an operation of valid form is executed -/
def ExOut (H : Hp) (e : Addr) (ss : List Stp) (ds : List Ent) (xs : List V) (Q : VK) (E : XK) : Prop :=
  match xs with
  | [_, p, l] => RetOut K CIP CIL CT CP CE H e ss ds p l Q E
  | _ => AddOut K CIS CTL CT CP CE H e ss ds xs Q E
def sp_Editor_present_text : Sp := fun vs H Q _ => ∃ e ss ds us, vs = [.ref e] ∧ EdAt K CT CP CE H e ss ds us ∧ ∀ a, TX K CT CP H a ss → Q (.ref a) H
end
end L2.Px
set_option Elab.async false
set_option linter.all false
set_option maxRecDepth 100000
set_option maxHeartbeats 1000000
namespace L2.Px
open PySem PySem.Spec PyProof.Rows StX TL ClX LamX
/-- v, w are no range of a text -/
def NoRng (ss : List Stp) (v w : V) : Prop := isInt 0 (sz ss : Nat) v = false ∨ ∃ i : Int, v = .int i ∧ isInt 0 (sz ss : Nat) v = true ∧ isInt (i - 1) ((sz ss : Nat) - 1) w = false
end L2.Px
set_option Elab.async false
set_option linter.all false
set_option maxRecDepth 100000
set_option maxHeartbeats 1000000
namespace L2.Px
open PySem PySem.Spec PyProof.Rows StX TL ClX LamX
section
variable {P : Program} {w : World} {K : PySem.W.Frag} {mg : Str → Option Value} {base : Heap} {k : Nat} {x : Str} {st : Stmt} {ps : List Str} {dvs : List V} {sp : Sp}
theorem DefGF.okX {N : List Str} (D : DefGF K mg x st ps dvs) (S : FnScope N ps (defScope st)) (len : ∀ vs H Q E, sp vs H Q E → vs.length = ps.length)
    (hbody : ∀ (f : Addr) (cdv : Value) (A : Around) (outer : List Env) (s : Shared) (H : Hp) (vs : List V) (Q : VK) (E : XK), Room k (A.deeper (envOfC x (defScope st) s.heap.objs.size f cdv)) → sp vs H Q E →
      ∃ t, PSs (cxOf (L2.CX P w) P w K mg base N x (defScope st) f cdv A outer s H E) (defBody st) t ∧ t { nx := fun _ H' => Q .non H', rt := Q } (start N vs) H) : GOk P w K mg base (L2.CX P w) (k + 1) x (fun vs => sp (vs ++ dvs)) := by
  obtain ⟨f, fd, F, a, ⟨ds, hd, b⟩, b0⟩ := D
  exact ⟨f, FnOk.toR1 (F.ok (CX := L2.CX P w) S len fun cdv A outer s H vs Q E hr h => hbody f cdv A outer s H vs Q E hr h) b hd, a, F.kp⟩
end
/-- v is no change of a text of n keys -/
def isCh (n : Int) : List V → Bool
  | [x, y] => isInt 0 (n - 1) x && isLet y
  | _ => false
def BadCh (K : PySem.W.Frag) (H : Hp) (n : Int) (v : V) : Prop := NoSeq v ∨ ∃ a xs, v = .ref a ∧ (∀ x ∈ xs, NoSeq x ∧ ∀ z, x = .str z → z.length ≤ sizeLine) ∧ ((SqT K H a xs ∧ isCh n xs = false) ∨ SqL K H a xs)
section
variable {K : PySem.W.Frag} {H H' : Hp} {n : Int} {v : V}
theorem BadCh.mono (h : BadCh K H n v) (e : Same H H') : BadCh K H' n v := by
  rcases h with h | ⟨a, xs, ev, hx, h | h⟩
  · exact .inl h
  · exact .inr ⟨a, xs, ev, hx, .inl ⟨Same.tup e h.1, h.2⟩⟩
  · exact .inr ⟨a, xs, ev, hx, .inr (e.seq h)⟩
end
theorem BadCh.kx {K : PySem.W.Frag} {H H' : Hp} {n : Int} {v : V} {T : List (Addr × Str)} (h : BadCh K H n v) (e : Kx T H H') : BadCh K H' n v := by
  rcases h with h | ⟨a, xs, ev, hx, h | h⟩
  · exact .inl h
  · exact .inr ⟨a, xs, ev, hx, .inl ⟨e.tup h.1, h.2⟩⟩
  · exact .inr ⟨a, xs, ev, hx, .inr (e.lst h)⟩
/-- alike, to a depth; None too -/
def AlX (K : PySem.W.Frag) (H : Hp) : Nat → V → V → Prop
  | 0, _, _ => False
  | n + 1, v, w => (∃ i, v = .int i ∧ w = .int i) ∨ (∃ x, v = .str x ∧ w = .str x ∧ x.length ≤ sizeLine) ∨ (v = .non ∧ w = .non) ∨ ∃ a b xs ys, v = .ref a ∧ w = .ref b ∧ (SqT K H a xs ∧ SqT K H b ys ∨ SqL K H a xs ∧ SqL K H b ys) ∧ xs.length = ys.length ∧ xs.length ≤ sizeLine ∧ ∀ (i : Nat) x y, xs[i]? = some x → ys[i]? = some y → AlX K H n x y
theorem AlX.mono {K : PySem.W.Frag} {H H' : Hp} (e : Same H H') : ∀ {n : Nat} {v w : V}, AlX K H n v w → AlX K H' n v w
  | 0, _, _, h => h.elim
  | n + 1, _, _, h => by
    rcases h with h | h | h | ⟨a, b, xs, ys, h1, h2, h3, h4, h5, h6⟩
    · exact .inl h
    · exact .inr (.inl h)
    · exact .inr (.inr (.inl h))
    · refine .inr (.inr (.inr ⟨a, b, xs, ys, h1, h2, ?_, h4, h5, fun i x y p q => AlX.mono e (h6 i x y p q)⟩))
      rcases h3 with ⟨p, q⟩ | ⟨p, q⟩
      · exact .inl ⟨Same.tup e p, Same.tup e q⟩
      · exact .inr ⟨e.seq p, e.seq q⟩
end L2.Px
namespace L2.Px
open PySem PySem.Spec PyProof.Rows StX TL ClX LamX
end L2.Px
namespace L2.Px
open PySem PySem.Spec PyProof.Rows StX TL ClX LamX
end L2.Px
namespace L2.Px
open PySem PySem.Spec PyProof.Rows StX TL ClX LamX
end L2.Px
namespace L2.Px
open PySem PySem.Spec PyProof.Rows StX TL ClX LamX
end L2.Px
namespace L2.Px
open PySem PySem.Spec PyProof.Rows StX TL ClX LamX
theorem ChAt.snoc {K : PySem.W.Frag} {H : Hp} {F p : Addr} {cs : List (Nat × Nat)} {n k c : Nat} {xs : List V} (h : ChAt K H F cs n) (hF : H F = some (.lst xs)) (c1 : k < n) (c2 : 97 ≤ c ∧ c ≤ 122) (hp : H p = some (.tup [.int (k : Nat), .str ⟨#[c]⟩])) :
    ChAt K (upd H F (.lst (xs ++ [.ref p]))) F (cs ++ [(k, c)]) n := by
  obtain ⟨xs', e, h1, h2⟩ := h
  rw [hF] at e
  cases e
  refine ⟨xs ++ [.ref p], upd_same, by simp [h1], fun i d hd => ?_⟩
  by_cases hi : i < cs.length
  · rw [List.getElem?_append_left hi] at hd
    obtain ⟨a1, a2, a3, T, b1, b2⟩ := h2 i d hd
    exact ⟨a1, a2, a3, T, by rw [List.getElem?_append_left (by omega)]; exact b1, by rw [upd_ne (fun z => by subst z; rw [hF] at b2; cases b2)]; exact b2⟩
  · have hi' : i = cs.length := by
      have := (List.getElem?_eq_some_iff.mp hd).1
      rw [List.length_append, List.length_singleton] at this
      omega
    subst hi'
    rw [List.getElem?_append_right (Nat.le_refl _), Nat.sub_self] at hd
    cases hd
    exact ⟨c1, c2.1, c2.2, p, by rw [← h1, List.getElem?_append_right (Nat.le_refl _), Nat.sub_self]; rfl, by rw [upd_ne (fun z => by subst z; rw [hF] at hp; cases hp)]; exact hp⟩
end L2.Px
namespace L2.Px
open PySem PySem.Spec PyProof.Rows StX TL ClX LamX
end L2.Px
namespace L2.Px
open PySem PySem.Spec PyProof.Rows StX TL ClX LamX
end L2.Px
set_option Elab.async false
set_option linter.all false
set_option maxRecDepth 100000
set_option maxHeartbeats 1000000
namespace L2.Px
open PySem PySem.Spec PyProof.Rows StX TL ClX LamX
section
variable {K : PySem.W.Frag} {CT CP : Addr} {H : Hp} {Q : VK} {E : XK} {a b : Addr} {ss tt : List Stp} {v w : V}
theorem rd_ifJ {c : Bool} {σ : St} {t u : TE} (J : V → Hp → Prop) (hj : ∀ v H', J v H' → Q v H') (h : ∀ R : VK, (∀ v H', J v H' → R v H') → if c = true then t σ H R else u σ H R) : if c = true then t σ H Q else u σ H Q := h Q hj
end
end L2.Px
namespace L2.Px
open PySem PySem.Spec PyProof.Rows StX TL ClX LamX
section
variable {K : PySem.W.Frag} {H H1 : Hp} {T : List (Addr × Str)} {l : Addr} {xs : List V} {o : HO}
theorem codeO_nl {c : Addr} {q : Str} : CodeO c q ≠ .lst xs := fun z => by
  unfold CodeO at z
  cases z
theorem upd_keep {b : Addr} {u : HO} (h : H l = some (.lst xs)) (e : H b = some u) (n : u ≠ .lst xs) : upd H l o b = some u := by
  rw [upd_ne fun z => by subst z; rw [h] at e; exact n (Option.some.inj e).symm]; exact e
theorem tabs_upd (t : Tabs T H) (h : H l = some (.lst xs)) : Tabs T (upd H l o) := fun p hp =>
  let ⟨ps, a, b, d⟩ := t p hp
  ⟨ps, upd_keep h a (fun z => nomatch z), b, fun pos cv hc => let ⟨c, x, y⟩ := d pos cv hc; ⟨c, x, upd_keep h y codeO_nl⟩⟩
theorem Kx.updL (x : Kx T H H1) (n : H l = none) (e : H1 l = some (.lst xs)) : Kx T H (upd H1 l o) :=
  ⟨fun b u hn h => by rw [upd_ne (ne_of_none h n)]; exact x.keep b u hn h, fun t => tabs_upd (x.tabs t) e⟩
theorem IsLam.updL {X : Cx} {k : Nat} {t : XK → TE} {f : Addr} (h : IsLam X k t f H) (e : H l = some (.lst xs)) : IsLam X k t f (upd H l o) := by
  obtain ⟨p, b, sc, dV, bs, c', h0, h1, h2, h3, h4⟩ := h
  refine ⟨p, b, sc, dV, bs, c', h0, upd_keep e h1 (fun z => by unfold lamOb at z; cases z), upd_keep e h2 codeO_nl, ?_, h4⟩
  rcases h3 with h3 | ⟨T, v, y, a1, a2, a3, a4⟩
  · exact .inl h3
  · exact .inr ⟨T, v, y, a1, a2, upd_keep e a3 (fun z => nomatch z), a4⟩
end
end L2.Px
namespace L2.Px
open PySem PySem.Spec PyProof.Rows StX TL ClX LamX
end L2.Px
set_option Elab.async false
set_option linter.all false
set_option maxRecDepth 100000
set_option maxHeartbeats 2000000
namespace L2.Px
open PySem PySem.Spec PyProof.Rows PySem.Calls PySem.W
end L2.Px
set_option Elab.async false
set_option linter.all false
set_option maxRecDepth 100000
set_option maxHeartbeats 2000000
namespace L2.Px
open PySem PySem.Spec PyProof.Rows StX ClX
/-- the promise, nothing being raised -/
def nox (sp : Sp) : Sp := fun vs H Q _ => sp vs H Q NoX
section
variable {P : Program} {w : World} {K : PySem.W.Frag} {mg : Str → Option Value} {base : Heap} {CX : CXT} {k i j : Nat} {f C : Addr} {sp sp' : Sp} {x m : Str} {R : Addr → Prop}
theorem KOk.mono (G : KOk P w K mg base CX j C sp) (h : j ≤ k) : KOk P w K mg base CX k C sp := let ⟨f, F, a⟩ := G; ⟨f, F.mono h, a⟩
theorem KOk.or (F : KOk P w K mg base CX0 i C sp) (G : KOk P w K mg base CX j C sp') (hi : i ≤ k) (hj : j ≤ k) : KOk P w K mg base CX k C (fun vs H Q E => sp vs H Q E ∨ sp' vs H Q E) := by
  obtain ⟨f, a1, a2⟩ := F.mono hi
  obtain ⟨g, b1, b2⟩ := G.mono hj
  have e := a2.init.symm.trans b2.init
  simp only [Option.some.injEq, Value.ref.injEq] at e
  subst e
  exact ⟨f, fnR_or (fnR_up a1) b1, a2⟩
theorem OOk.or (F : OOk P w K mg base CX0 i C sp) (G : OOk P w K mg base CX j C sp') (hi : i ≤ k) (hj : j ≤ k) : OOk P w K mg base CX k C (fun vs H Q E => sp vs H Q E ∨ sp' vs H Q E) := by
  obtain ⟨f, a1, a2⟩ := F
  obtain ⟨g, b1, b2⟩ := G
  have e := a2.at_.symm.trans b2.at_
  simp only [Option.some.injEq, Value.ref.injEq] at e
  subst e
  exact ⟨f, fnR_or (fnR_up (a1.mono hi)) (b1.mono hj), a2⟩
end
def DefB (K : PySem.W.Frag) (C : Addr) (m qual : Str) (st : Stmt) (ps : List Str) : Prop := ∃ f fd, Fun K m qual st f fd ∧ BMeth K C m f ∧ Binds K fd ps []
def BOk (P : Program) (w : World) (K : PySem.W.Frag) (mg : Str → Option Value) (base : Heap) (CX : CXT) (k : Nat) (C : Addr) (m : Str) (sp : Sp) : Prop := ∃ f, FnR P w K mg base CX k f sp ∧ BMeth K C m f
/-- m(self, .., *v) -/
def DefBS (K : PySem.W.Frag) (C : Addr) (m qual : Str) (st : Stmt) (ps : List Str) (pv : Str) : Prop := ∃ f fd, Fun K m qual st f fd ∧ BMeth K C m f ∧
  ∀ us rest : List Value, us.length = ps.length → bindArgs fd ⟨us ++ rest, []⟩ = (newTuple rest >>= fun t => pure (ps.zip us ++ [(pv, t)]))
section
variable {P : Program} {w : World} {K : PySem.W.Frag} {mg : Str → Option Value} {base : Heap} {CX : CXT} {k : Nat} {C : Addr} {ps : List Str} {sp : Sp} {m qual : Str} {st : Stmt}
theorem DefB.ok {N : List Str} (D : DefB K C m qual st ps) (S : FnScope N ps (defScope st)) (len : ∀ vs H Q E, sp vs H Q E → vs.length = ps.length)
    (hbody : ∀ (f : Addr) (cdv : Value) (A : Around) (outer : List Env) (s : Shared) (H : Hp) (vs : List V) (Q : VK) (E : XK), Room k (A.deeper (envOfC qual (defScope st) s.heap.objs.size f cdv)) → sp vs H Q E →
      ∃ t, PSs (cxOf CX0 P w K mg base N qual (defScope st) f cdv A outer s H E).nox (defBody st) t ∧ t { nx := fun _ H' => Q .non H', rt := Q } (start N vs) H) : BOk P w K mg base CX0 (k + 1) C m sp := by
  obtain ⟨f, fd, F, a, b⟩ := D
  exact ⟨f, FnOk.toR (F.ok S len fun cdv A outer s H vs Q E hr h => hbody f cdv A outer s H vs Q E hr h) b, a⟩
theorem DefBS.ok {N : List Str} {pv : Str} (D : DefBS K C m qual st ps pv) (S : FnScope N (ps ++ [pv]) (defScope st))
    (hbody : ∀ (f : Addr) (cdv : Value) (A : Around) (outer : List Env) (s : Shared) (H : Hp) (vs : List V) (Q : VK) (E : XK), Room k (A.deeper (envOfC qual (defScope st) s.heap.objs.size f cdv)) → sp vs H Q E →
      ∃ t, PSs (cxOf CX0 P w K mg base N qual (defScope st) f cdv A outer s H E).nox (defBody st) t ∧ t { nx := fun _ H' => Q .non H', rt := Q } (start N vs) H) : BOk P w K mg base CX0 (k + 1) C m (spStar ps.length sp) := by
  obtain ⟨f, fd, F, M, hb⟩ := D
  obtain ⟨oc, od, kV, doc, pm, an, cdv, ct, osl, rfl, lk, hcd⟩ := F.ex
  exact ⟨f, fn_star (sp := sp) lk hcd S cxUp_none hb fun A outer s H vs Q E hr h => let ⟨t, a, b⟩ := hbody f cdv A outer s H vs Q E hr h; ⟨t, a.nox, b⟩, M⟩
theorem DefB.okX {N : List Str} (D : DefB K C m qual st ps) (S : FnScope N ps (defScope st)) (len : ∀ vs H Q E, sp vs H Q E → vs.length = ps.length)
    (hbody : ∀ (f : Addr) (cdv : Value) (A : Around) (outer : List Env) (s : Shared) (H : Hp) (vs : List V) (Q : VK) (E : XK), Room k (A.deeper (envOfC qual (defScope st) s.heap.objs.size f cdv)) → sp vs H Q E →
      ∃ t, PSs (cxOf (L2.CX P w) P w K mg base N qual (defScope st) f cdv A outer s H E) (defBody st) t ∧ t { nx := fun _ H' => Q .non H', rt := Q } (start N vs) H) : BOk P w K mg base (L2.CX P w) (k + 1) C m sp := by
  obtain ⟨f, fd, F, a, b⟩ := D
  exact ⟨f, FnOk.toR (F.okX S len fun cdv A outer s H vs Q E hr h => hbody f cdv A outer s H vs Q E hr h) b, a⟩
theorem DefBS.okX {N : List Str} {pv : Str} (D : DefBS K C m qual st ps pv) (S : FnScope N (ps ++ [pv]) (defScope st))
    (hbody : ∀ (f : Addr) (cdv : Value) (A : Around) (outer : List Env) (s : Shared) (H : Hp) (vs : List V) (Q : VK) (E : XK), Room k (A.deeper (envOfC qual (defScope st) s.heap.objs.size f cdv)) → sp vs H Q E →
      ∃ t, PSs (cxOf (L2.CX P w) P w K mg base N qual (defScope st) f cdv A outer s H E) (defBody st) t ∧ t { nx := fun _ H' => Q .non H', rt := Q } (start N vs) H) : BOk P w K mg base (L2.CX P w) (k + 1) C m (spStar ps.length sp) := by
  obtain ⟨f, fd, F, M, hb⟩ := D
  obtain ⟨oc, od, kV, doc, pm, an, cdv, ct, osl, rfl, lk, hcd⟩ := F.ex
  exact ⟨f, fn_star (sp := sp) lk hcd S cxUp hb fun A outer s H vs Q E hr h => hbody f cdv A outer s H vs Q E hr h, M⟩
end
section
variable {X : Cx} {CX : CXT} {k : Nat} {C : Addr} {sp : Sp} {E : XK} {m : Str} {e o : Expr} {es : List Expr} {ta te : TE} {t : TA} {p pos apos : Pos} {σ : St} {H : Hp} {Q : VK}
/-- o.m( *e) -/
def tMS (K : PySem.W.Frag) (C : Addr) (m : Str) (sp : Sp) (E : XK) (ta te : TE) : TE := fun σ H Q => ta σ H fun x H1 => ∃ a, x = .ref a ∧ InsM H1 a C m ∧
  ∀ H1', Same H1 H1' → te σ H1' fun y H2 => Same H1' H2 ∧ ∃ b vs, y = .ref b ∧ (SqT K H2 b vs ∨ SqL K H2 b vs) ∧ sp (.ref a :: vs) H2 Q E
theorem pe_mS {K : PySem.W.Frag} (hk : X.K = K) (he : PE X o ta) (c : Cls K C) (G : BOk X.prog X.w K X.mg X.base CX k C m sp) (hr : Room k X.A) (hx : Passes CX X E) (ha : PE X e te)
    (hbase : attributeBase o m X.env (eval o X.env) = eval o X.env := by rfl) : PE X (.Call (.Attribute o m apos) [.Starred e p] [] pos) (tMS K C m sp E ta te) := by
  subst hk
  obtain ⟨g, F, b⟩ := G
  refine ⟨fun pins s σ H Q I h => ?_⟩
  refine starcall_of hbase (thn (he.run pins s σ H _ I h) fun u s1 ⟨x, H1, I1, rx, a, ex, ⟨dx, fs, ea, l⟩, q⟩ => ?_)
  subst ex
  obtain rfl : u = Value.ref a := rx
  refine getbound_ok I1 ea c b l fun q1 s2 hq1 I2 => ?_
  refine PySem.W.ks_call (P := PySem.W.MethP X.K q1 g (.ref a)) rfl (PySem.W.keeps_M b.fi) (PySem.W.ks_lone ?_)
  refine thn (ha.run pins s2 σ _ _ I2 (q _ (Same.new (Same.refl _) hq1))) fun v s3 ⟨y, H2, I3, ry, S2, t, vs, ey, ht, hsp⟩ => ?_
  subst ey
  obtain rfl : v = Value.ref t := ry
  have hm : H2 q1 = some (.met g a) := S2 _ _ upd_same
  refine star_any I3 ht fun us s4 I4 rv => ⟨met_P I4 hm, ?_⟩
  exact wpAny_call (PySem.W.method_call (met_P I4 hm).1 (run_fnR (us := Value.ref a :: us) (vs := V.ref a :: vs) F hr hx I4 (.cons rfl rv) hsp))
theorem rd_mS {K : PySem.W.Frag} (h : ta σ H fun x H1 => ∃ a, x = .ref a ∧ InsM H1 a C m ∧ ∀ H1', Same H1 H1' → te σ H1' fun y H2 => Same H1' H2 ∧ ∃ b vs, y = .ref b ∧ (SqT K H2 b vs ∨ SqL K H2 b vs) ∧ sp (.ref a :: vs) H2 Q E) : tMS K C m sp E ta te σ H Q := h
end
section
variable {X : Cx} {CX : CXT} {k : Nat} {C : Addr} {sp : Sp} {E : XK} {f : Str} {e o : Expr} {es : List Expr} {ta : TE} {t : TA} {pos apos : Pos} {K : PySem.W.Frag}
def tOF (K : PySem.W.Frag) (f : Str) (C : Addr) (sp : Sp) (E : XK) (ta : TE) (t : TA) : TE := fun σ H Q => ta σ H fun x H1 => rFld K f x H1 fun y H1 => ∃ a, y = V.ref a ∧ t σ H1 fun vs H2 => InsA H2 a C ∧ sp (V.ref a :: vs) H2 Q E
theorem pe_oF {pl : Sem Bool} (hk : X.K = K) (hf : PE X o ta) (G : OOk X.prog X.w X.K X.mg X.base CX k C sp) (hr : Room k X.A) (hx : Passes CX X E) (ha : PA X (e :: es) t)
    (he : starEach (e :: es) X.env = (false, eval e X.env) :: starEach es X.env := by rfl) (hpl : (backTo pos (starEach es X.env)).any (·.1) = false := by rfl)
    (ht : eval (.Call (.Attribute o f apos) (e :: es) [] pos) X.env = (do
      let ov ← eval o X.env
      standAt apos.atName
      let (f, first) ← holding [ov] (getMethod ov f pl)
      callWith pos f first (backTo pos (starEach (e :: es) X.env)) (backToKw pos (keywordEach [] X.env))) := by rfl) : PE X (.Call (.Attribute o f apos) (e :: es) [] pos) (tOF K f C sp E ta t) := by
  subst hk
  obtain ⟨g, F, c⟩ := G
  refine ⟨fun pins s σ H Q I h => ?_⟩
  refine PySem.W.methodCall_KW (pl := pl) (thn (hf.run pins s σ H _ I h) fun u s1 ⟨x, H1, I1, rx, a, C', dx, fs, v, ex, ea, cc, nn, l, b, ev, q⟩ => ?_) ht
  subst ex ev
  obtain rfl : u = Value.ref a := rx
  refine getmeth_fld I1 ea cc nn l fun u2 s2 I2 r2 => ?_
  obtain rfl : u2 = Value.ref b := r2
  refine callO_with (thn (ha.run pos pins s2 σ H1 _ I2 q) fun us s3 ⟨vs, H2, I3, r, hi, q2⟩ => ?_) he hpl
  have hi' : StX.InsC X H2 b C := .inr hi
  obtain ⟨ox, od, J, hd⟩ := insC_at I3 hi'
  exact ⟨⟨C, ox, od, J, hd⟩, run_callO c F hr hx I3 hi' r q2⟩
theorem rd_oF {σ : St} {H : Hp} {Q : VK} (h : ta σ H fun x H1 => rFld K f x H1 fun y H1 => ∃ a, y = V.ref a ∧ t σ H1 fun vs H2 => InsA H2 a C ∧ sp (V.ref a :: vs) H2 Q E) : tOF K f C sp E ta t σ H Q := h
end
section
variable {X : Cx} {body : List Stmt} {f₀ : Stmt} {fs : List Stmt} {pos : Pos} {tb : WX → TS} {tf tfs : TS} {Wout : WX}
/-- try: body finally: suite, nothing is raised -/
def tFin0 (tb tf : TS) : TS := fun D σ H => tb { nx := fun σ1 H1 => tf D σ1 H1, rt := fun _ _ => False } σ H
theorem ps_fin0 {tb : TS} (hb : PSs X.nox body tb) (hfin : PSs X.nox (f₀ :: fs) tf) : PS X (.Try body [] [] (f₀ :: fs) pos) (tFin0 tb tf) := by
  refine ⟨fun pins s σ H D I h => ?_⟩
  refine wpAny_Try_finally (wpAny_mono (hb.run pins s σ H { nx := fun σ1 H1 => tf D σ1 H1, rt := fun _ _ => False } (I.wish _) h) (fun g s1 z => ?_) fun _ _ z => False.elim z)
  have z := z.unwish
  cases g with
  | ret u =>
    obtain ⟨_, _, _, _, _, q⟩ := z
    exact False.elim q
  | brk =>
    obtain ⟨_, _, _, q⟩ := z
    exact False.elim q
  | cont =>
    obtain ⟨_, _, _, q⟩ := z
    exact False.elim q
  | next =>
    obtain ⟨σ1, H1, J1, q1⟩ := z
    refine wpAny_execs_nil ?_
    refine wpAny_mono (hfin.run pins s1 σ1 H1 D (J1.wish _) q1) (fun g2 s2 q2 => ?_) fun _ _ e => False.elim e
    have q3 : SP X pins D g2 s2 := q2.unwish
    cases g2 <;> exact q3
theorem rd_fin0 {tb tf : TS} {nx ct bk : St → Hp → Prop} {rt : VK} {σ : St} {H : Hp} (h : tb { nx := fun σ1 H1 => tf ⟨nx, rt, bk, ct⟩ σ1 H1, rt := fun _ _ => False } σ H) : tFin0 tb tf ⟨nx, rt, bk, ct⟩ σ H := h
end
section
variable {X : Cx} {o : Expr} {to : TE} {f : Str} {pos : Pos} {σ : St} {H : Hp} {K : PySem.W.Frag}
def gFld (K : PySem.W.Frag) (f : Str) (to : TE) : TG := fun v σ H Q => to σ H fun x H2 => rSFld K f v x H2 (fun H3 => Q σ H3)
theorem pg_fld (hk : X.K = K) (ho : PE X o to) (ha : ∀ v, assign (.Attribute o f pos) X.env v = (do
      let ov ← holding [v] (eval o X.env)
      standAt pos.atName
      holding [v, ov] (setAttr ov f v)
      release [v, ov] []) := by intro _; rfl) : PG X (.Attribute o f pos) (gFld K f to) := by
  subst hk
  refine ⟨fun pins s σ H v u Q I r h => ?_⟩
  rw [ha]
  refine wpAny_bind (wpAny_holding (thn (ho.run pins s σ H _ I h) fun ov s1 ⟨x, H1, I1, r1, q1⟩ => ?_))
  obtain ⟨a, C, dx, fs, ex, ea, c, n, l, q⟩ := q1
  subst ex
  obtain rfl : ov = Value.ref a := r1
  refine wpAny_bind (wpAny_standAt (wpAny_bind (wpAny_holding (setattr_ok I1 ea c n l r fun s2 I2 => ?_))))
  exact wpAny_release ⟨σ, _, I2, q⟩
end
section
variable {K : PySem.W.Frag} {C f : Addr} {m qual pv : Str} {st : Stmt} {ps : List Str}
theorem defBS_mk (r : BMeth K C m f) (l : AtF K m qual st f) (k : PySem.W.keepIn K (.ref f) = true) (b : BFS m qual st ps pv) : DefBS K C m qual st ps pv := by
  obtain ⟨oc, od, kV, dc, pm, an, cd, ct, sl, l, c⟩ := l
  exact ⟨f, _, fun_mk (st := st) l c k, r, fun us rest hl => b kV dc pm an cd ct us rest hl⟩
end
section
variable {K : PySem.W.Frag} {CT CP CE C : Addr} {H H' H1 : Hp} {Q : VK} {E : XK} {a b d e x dx : Addr} {xs ys : List V} {z : Str} {σ : St} {td ty tx : TE} {w : World} {f : Str} {y v : V} {fs : List (Str × V)} {k : Hp → Prop}
theorem rd_edset (e : H x = some (.ins C dx fs)) (c : Cls K C) (nn : NoAttr K C f) (l : fs.length < 1000) (h : ∀ H', But x H H' → H' x = some (.ins C dx (putF f y fs)) → k H') : rSFld K f y (.ref x) H k :=
  rd_sfld_at e c nn l (h _ (But.at But.refl) upd_same)
theorem fl6 {a b c d e f : Str} {va vb vc vd ve vf : V} : (putF f vf (putF e ve (putF d vd (putF c vc (putF b vb (putF a va [])))))).length < 1000 := Nat.lt_of_le_of_lt (putF_len (k := 5) (putF_len (k := 4) (putF_len (k := 3) (putF_len (k := 2) (putF_len (k := 1) (putF_len (k := 0) (Nat.le_refl 0))))))) (by decide)
theorem rd_tupleL (h : SqL K H a xs) (q : ∀ l H', Same H H' → H l = none → H' l = some (.tup xs) → Q (.ref l) H') : rTupA K [.ref a] H Q := rd_tuple_lst h fun l hl => q l _ (Same.new (Same.refl _) hl) hl upd_same
end
section
variable {K : PySem.W.Frag} {CIS CTL CIP CIL CT CP CE C : Addr} {H H' H1 : Hp} {Q : VK} {E : XK} {e : Addr} {xs ms rs : List V} {ss : List Stp} {ds : List Ent} {p l v : V} {A B : Sp}
theorem AddOut.same (S : Same H H1) (h : AddOut K CIS CTL CT CP CE H e ss ds xs Q E) : AddOut K CIS CTL CT CP CE H1 e ss ds xs Q E := by
  rcases h with ⟨s, h1, h2, h3, h4, k⟩ | ⟨h1, k⟩ | ⟨s, h1, h2, h3, h4, k⟩
  · exact .inl ⟨s, h1, h2, h3, h4, fun H' b ed => k H' ((But.same S).trans b) ed⟩
  · exact .inr (.inl ⟨h1, fun d H' S' => k d H' (Same.trans S S')⟩)
  · exact .inr (.inr ⟨s, h1, h2, h3, h4, fun H' S' => k H' (Same.trans S S')⟩)
theorem RetOut.same (S : Same H H1) (h : RetOut K CIP CIL CT CP CE H e ss ds p l Q E) : RetOut K CIP CIL CT CP CE H1 e ss ds p l Q E := by
  rcases h with ⟨i, c, h1, h2, h3, h4, h5, k⟩ | ⟨h1, k⟩ | ⟨h1, h2, k⟩
  · exact .inl ⟨i, c, h1, h2, h3, h4, h5, fun H' b ed => k H' ((But.same S).trans b) ed⟩
  · exact .inr (.inl ⟨h1, fun H' S' => k H' (Same.trans S S')⟩)
  · exact .inr (.inr ⟨h1, h2, fun H' S' => k H' (Same.trans S S')⟩)
theorem ExOut.same (S : Same H H1) (h : ExOut K CIS CTL CIP CIL CT CP CE H e ss ds xs Q E) : ExOut K CIS CTL CIP CIL CT CP CE H1 e ss ds xs Q E := by
  unfold ExOut at h ⊢
  split
  · exact RetOut.same S h
  · rename_i hn
    split at h
    · exact absurd rfl (hn _ _ _)
    · exact AddOut.same S h
end
end L2.Px
set_option Elab.async false
set_option linter.all false
set_option maxRecDepth 100000
set_option maxHeartbeats 1000000
namespace L2.Px
open PySem PySem.Spec PyProof.Rows StX ClX
section
variable {K : PySem.W.Frag} {CT CP CE : Addr} {H H1 : Hp} {Q : VK} {E : XK} {rs ms : List V} {ss : List Stp} {os : List Op}
theorem rd_mkEd (hst : StepsAt K H rs ss) (ok : okFrom 0 ss) (few : ss.length ≤ 30) (q : ∀ x Hc, H x = none → Same H Hc → EdAt K CT CP CE Hc x ss [] [] → Q (.ref x) Hc) :
    rMk CE (spStar 1 (sp_Editor_init K CT CP CE)) E rs H Q := by
  intro x dx nx nd ne
  have S1 : Same H (upd (upd H dx (.own x)) x (.ins CE dx [])) := Same.mut (Same.mut (Same.refl _) nd) nx
  refine ⟨[.ref x], rs, rfl, rfl, by rw [hst.1]; exact Nat.le_trans few (Nat.le_of_lt line30), fun p np => ?_⟩
  have S2 := Same.new (o := .tup rs) S1 np
  exact ⟨x, dx, p, rs, ss, rfl, lk_new np upd_same, SqT.of upd_same, hst.mono S2, ok, few, fun H' k T => ⟨rfl, q x H' nx (fun b o e => k b o (ne_of_none e nx) (S2 _ _ e)) T⟩⟩
theorem OpsAt.mono (h : OpsAt K H ms os) (S : Same H H1) : OpsAt K H1 ms os := ⟨h.1, fun j o q => let ⟨v, a, b, c, d⟩ := h.2 j o q; ⟨v, a, b, c, Same.tup S d⟩⟩
end
end L2.Px
set_option Elab.async false
set_option linter.all false
set_option maxRecDepth 100000
set_option maxHeartbeats 1000000
namespace L2.Px
open PySem PySem.Spec PyProof.Rows StX TL
section
variable {K : PySem.W.Frag} {CIS CTL CIP CIL CT CP CE : Addr} {H H' : Hp} {Q : VK} {E : XK} {e t l : Addr} {ss tt : List Stp} {ds us d' u' : List Ent} {en : Ent} {ms rs : List V} {os : List Op} {p c : Nat} {w : Str} {f z n : Nat}
theorem OpsAt.steps (h : StepsAt K H ms ss) : OpsAt K H ms (ss.map .st) := by
  refine ⟨by rw [List.length_map]; exact h.1, fun j o hj => ?_⟩
  rw [List.getElem?_map] at hj
  cases hs : ss[j]? with
  | none => rw [hs] at hj; cases hj
  | some s =>
    rw [hs] at hj; cases hj
    obtain ⟨v, a, b, c, d⟩ := h.2 j s hs
    exact ⟨v, a, b, c, d⟩
theorem OpsAt.nil : OpsAt K H [] [] := ⟨rfl, fun _ _ h => by simp at h⟩
theorem rd_edPT (h : EdAt K CT CP CE H e ss ds us) (q : ∀ a, TX K CT CP H a ss → Q (.ref a) H) : ∃ a' dx fs, V.ref e = .ref a' ∧ H a' = some (.ins CE dx fs) ∧ sp_Editor_present_text K CT CP CE [.ref a'] H Q E := by
  obtain ⟨i, ed, _⟩ := id h
  exact ⟨e, _, _, rfl, ed.ins, e, ss, ds, us, rfl, h, q⟩
end
end L2.Px
set_option Elab.async false
set_option linter.all false
set_option maxRecDepth 100000
set_option maxHeartbeats 1000000
namespace L2.Px
open PySem PySem.Spec PyProof.Rows StX TL
/-- a step typed as a, b, c, z -/
def okL1 (s : Stp) : Prop := ∀ c ∈ ty1 s, c = 97 ∨ c = 98 ∨ c = 99 ∨ c = 122
section
variable (K : PySem.W.Frag) (CT CP CE : Addr)
def sp_x_law_drawn : Sp := fun vs H Q _ => ∃ (r : Addr) (tot most : Nat), vs = [.ref r, .int tot, .int most] ∧ RowAt K H r ∧ tot ≤ 1000000000000000000 ∧ 1 ≤ most ∧ most ≤ 1000000000 ∧
  ∀ p v s H', Kp H H' → RowAt K H' r → H' p = some (.tup [v, .int (tot + len1 s : Nat)]) → StepAt K H' v s → okStep tot s → len1 s ≤ 6 * most → okL1 s → Q (.ref p) H'
def sp_x_law_some : Sp := fun vs H Q _ => ∃ (r : Addr) (count most : Nat), vs = [.ref r, .int count, .int most] ∧ RowAt K H r ∧ count ≤ 20 ∧ 1 ≤ most ∧ most ≤ 1000000000 ∧
  ∀ l ms ss H', Kp H H' → RowAt K H' r → H' l = some (.lst ms) → StepsAt K H' ms ss → okFrom 0 ss → 1 ≤ sz ss → ss.length ≤ count + 1 → sz ss ≤ (count + 1) * (6 * most) → okLs ss → Q (.ref l) H'
def sp_x_law_keysL : Sp := fun vs H Q _ => ∃ (a : Addr) (ms : List V) (ss : List Stp), vs = [.ref a] ∧ SqL K H a ms ∧ StepsAt K H ms ss ∧ okFrom 0 ss ∧ ss.length ≤ 31 ∧ sz ss ≤ 16000 ∧
  ∀ p l H', Same H H' → H' p = some (.tup [.str (mkS (tyL ss)), .ref l]) → H' l = some (.lst (natV (ks ss))) → Q (.ref p) H'
def sp_x_law_made : Sp := fun vs H Q _ => ∃ (a : Addr) (ms : List V) (ss : List Stp), vs = [.ref a] ∧ SqL K H a ms ∧ StepsAt K H ms ss ∧ okFrom 0 ss ∧ ss.length ≤ 30 ∧
  ∀ p H', Same H H' → TX K CT CP H' p ss → Q (.ref p) H'
end
section
variable (K : PySem.W.Frag) (CT CP CE : Addr)
def sp_Editor_apply0 : Sp := fun vs H Q _ => ∃ e m ss ds us, vs = [.ref e, .ref m] ∧ EdAt K CT CP CE H e ss ds us ∧ SqT K H m [] ∧ ∀ H' l, Same H H' → H' l = some (.lst []) → Q (.ref l) H'
def sp_Editor_replay0 : Sp := fun vs H Q _ => ∃ t rs ss l, vs = [.ref CE, .ref t, .ref l] ∧ SqT K H t rs ∧ StepsAt K H rs ss ∧ okFrom 0 ss ∧ ss.length ≤ 30 ∧ (SqT K H l [] ∨ SqL K H l []) ∧ ∀ H' e, Same H H' → H e = none → EdAt K CT CP CE H' e ss [] [] → Q (.ref e) H'
end
theorem okLs.nil : okLs [] := fun c h => by cases h
theorem okLs.snoc {ss : List Stp} {s : Stp} (h : okLs ss) (g : okL1 s) : okLs (ss ++ [s]) := fun c hc => by
  rw [tyL_append] at hc
  rcases List.mem_append.mp hc with hc | hc
  · exact h c hc
  · exact g c (by simpa [tyL] using hc)
theorem okL1.wr {x : Str} {m : Nat} (hx : okWord x m) : okL1 (.wr x) := fun c hc => hx.2.2 c hc
theorem okL1.pa {f l t : Nat} : okL1 (.pa f l t) := fun c hc => by cases hc
theorem StepAt.wrN {K : PySem.W.Frag} {H : Hp} {p : Addr} {x : Str} (e : H p = some (.tup [.str "write", .str x])) : StepAt K H (.ref p) (.wr x) := ⟨p, rfl, SqT.of e⟩
theorem StepAt.paN {K : PySem.W.Frag} {H : Hp} {p : Addr} {f l t : Nat} (e : H p = some (.tup [.str "paste", .int (f : Nat), .int (l : Nat), .int (t : Nat)])) : StepAt K H (.ref p) (.pa f l t) := ⟨p, rfl, SqT.of e⟩
section
variable {K : PySem.W.Frag} {CT CP CE : Addr} {H H' : Hp} {Q : VK} {E : XK} {r l a : Addr} {i j : Int} {ms : List V} {ss : List Stp}
theorem rd_drawn (row : RowAt K H r) (h0 : 0 ≤ i) (h1 : i ≤ 1000000000000000000) (h2 : 1 ≤ j) (h3 : j ≤ 1000000000)
    (q : ∀ p v s H', Kp H H' → RowAt K H' r → H' p = some (.tup [v, .int (i + (len1 s : Nat))]) → StepAt K H' v s → okStep i.toNat s → (len1 s : Int) ≤ 6 * j → okL1 s → Q (.ref p) H') : sp_x_law_drawn K [.ref r, .int i, .int j] H Q E := by
  obtain ⟨n, rfl⟩ : ∃ n : Nat, i = n := ⟨i.toNat, by omega⟩
  obtain ⟨m, rfl⟩ : ∃ m : Nat, j = m := ⟨j.toNat, by omega⟩
  refine ⟨r, n, m, rfl, row, by omega, by omega, by omega, fun p v s H' k rw' e sa ok le lt => q p v s H' k rw' ?_ sa ok (by omega) lt⟩
  rw [e]; simp
theorem rd_some (row : RowAt K H r) (h0 : 0 ≤ i) (h1 : i ≤ 20) (h2 : 1 ≤ j) (h3 : j ≤ 1000000000)
    (q : ∀ l ms ss H', Kp H H' → RowAt K H' r → H' l = some (.lst ms) → StepsAt K H' ms ss → okFrom 0 ss → 1 ≤ sz ss → (ss.length : Int) ≤ i + 1 → (sz ss : Int) ≤ (i + 1) * (6 * j) → okLs ss → Q (.ref l) H') : sp_x_law_some K [.ref r, .int i, .int j] H Q E := by
  obtain ⟨n, rfl⟩ : ∃ n : Nat, i = n := ⟨i.toNat, by omega⟩
  obtain ⟨m, rfl⟩ : ∃ m : Nat, j = m := ⟨j.toNat, by omega⟩
  exact ⟨r, n, m, rfl, row, by omega, by omega, by omega, fun l ms ss H' k rw' e sa ok h1 h2 h3 hl => q l ms ss H' k rw' e sa ok h1 (by omega) (by exact_mod_cast h3) hl⟩
theorem rd_keysL (h : SqL K H a ms) (hs : StepsAt K H ms ss) (ok : okFrom 0 ss) (few : ss.length ≤ 31) (hz : sz ss ≤ 16000) (q : ∀ p l H', Same H H' → H' p = some (.tup [.str (mkS (tyL ss)), .ref l]) → H' l = some (.lst (natV (ks ss))) → Q (.ref p) H') : sp_x_law_keysL K [.ref a] H Q E :=
  ⟨a, ms, ss, rfl, h, hs, ok, few, hz, q⟩
theorem rd_edRep0 {t l : Addr} (ht : TS' K H t ss) (hl : H l = some (.lst [])) (ok : okFrom 0 ss) (few : ss.length ≤ 30)
    (q : ∀ H' e, Same H H' → H e = none → EdAt K CT CP CE H' e ss [] [] → Q (.ref e) H') : sp_Editor_replay0 K CT CP CE [.ref CE, .ref t, .ref l] H Q E :=
  let ⟨rs, h1, h2⟩ := ht
  ⟨t, rs, ss, l, rfl, h1, h2, ok, few, .inr (SqL.of hl), q⟩
theorem rd_tupLS (h : SqL K H l ms) (hs : StepsAt K H ms ss) (q : ∀ p H', Same H H' → TS' K H' p ss → Q (.ref p) H') : rTupA K [.ref l] H Q := rd_tupleL h fun p H' S n e => q p H' S ⟨ms, SqT.of e, hs.mono S⟩
theorem rd_made (h : SqL K H a ms) (hs : StepsAt K H ms ss) (ok : okFrom 0 ss) (few : ss.length ≤ 30) (q : ∀ p H', Same H H' → TX K CT CP H' p ss → Q (.ref p) H') : sp_x_law_made K CT CP [.ref a] H Q E :=
  ⟨a, ms, ss, rfl, h, hs, ok, few, q⟩
end
theorem pick_abcz {n : Nat} {v : V} (h : [V.str "a", V.str "b", V.str "c", V.str "z"][n]? = some v) : ∃ c : Nat, v = .str ⟨#[c]⟩ ∧ (c = 97 ∨ c = 98 ∨ c = 99 ∨ c = 122) := by
  match n, h with
  | 0, h => cases h; exact ⟨97, congrArg V.str (by decide +kernel), by decide⟩
  | 1, h => cases h; exact ⟨98, congrArg V.str (by decide +kernel), by decide⟩
  | 2, h => cases h; exact ⟨99, congrArg V.str (by decide +kernel), by decide⟩
  | 3, h => cases h; exact ⟨122, congrArg V.str (by decide +kernel), by decide⟩
  | n + 4, h => simp at h
section
variable {K : PySem.W.Frag} {H : Hp} {l a : Addr} {xs ys ms : List V} {ss : List Stp} {o : HO}
theorem SqT.updL (h : SqT K H a xs) (e : H l = some (.lst ys)) : SqT K (upd H l o) a xs := by
  rcases h with (h | ⟨u, h⟩) | h
  · exact .inl (.inl (by rw [upd_ne fun z => by subst z; rw [e] at h; cases h]; exact h))
  · exact .inl (.inr ⟨u, by rw [upd_ne fun z => by subst z; rw [e] at h; cases h]; exact h⟩)
  · exact .inr h
theorem StepsAt.updL (h : StepsAt K H ms ss) (e : H l = some (.lst ys)) : StepsAt K (upd H l o) ms ss := ⟨h.1, fun j s q => let ⟨v, a, b, c, d⟩ := h.2 j s q; ⟨v, a, b, c, SqT.updL d e⟩⟩
theorem StepAt.updL {v : V} {s : Stp} (h : StepAt K H v s) (e : H l = some (.lst ys)) : StepAt K (upd H l o) v s := let ⟨b, c, d⟩ := h; ⟨b, c, SqT.updL d e⟩
end
end L2.Px
set_option Elab.async false
set_option linter.all false
set_option maxRecDepth 100000
set_option maxHeartbeats 1000000
namespace L2.Px
open PySem PySem.Spec PyProof.Rows StX TL ClX LamX
def gL (ls : List (Nat × Nat)) (k : Nat) : Option Nat := (ls.find? fun c => decide (c.1 = k)).map (·.2)
def putL (ls : List (Nat × Nat)) (k c : Nat) : List (Nat × Nat) := if (ls.any fun p => decide (p.1 = k)) = true then ls.map (fun p => if p.1 = k then (p.1, c) else p) else ls ++ [(k, c)]
def kvM (ls : List (Nat × Nat)) : List (Key × V) := ls.map fun c => ((Sum.inl ((c.1 : Nat) : Int) : Key), V.str ⟨#[c.2]⟩)
theorem gL_cons (p : Nat × Nat) (ls : List (Nat × Nat)) (k : Nat) : gL (p :: ls) k = if p.1 = k then some p.2 else gL ls k := by
  unfold gL
  rw [List.find?_cons]
  by_cases h : p.1 = k
  · rw [decide_eq_true h, if_pos h]; rfl
  · rw [decide_eq_false h, if_neg h]
theorem kvM_val : ∀ (ls : List (Nat × Nat)) (k : Nat), valV (kvM ls) (Sum.inl ((k : Nat) : Int) : Key) = (gL ls k).map fun c => V.str ⟨#[c]⟩
  | [], _ => rfl
  | c :: cs, k => by
    show valV (((Sum.inl ((c.1 : Nat) : Int) : Key), V.str ⟨#[c.2]⟩) :: kvM cs) _ = _
    rw [gL_cons]
    by_cases e : c.1 = k
    · rw [valV_pos (by rw [e]), if_pos e]; rfl
    · rw [valV_neg (by intro z; have := Sum.inl.inj z; omega), kvM_val cs k, if_neg e]
theorem kvM_put (ls : List (Nat × Nat)) (k c : Nat) : putK (kvM ls) (Sum.inl ((k : Nat) : Int) : Key) (.str ⟨#[c]⟩) = kvM (putL ls k c) := by
  unfold putK putL
  have e : ((kvM ls).any fun kv => decide (kv.1 = (Sum.inl ((k : Nat) : Int) : Key))) = ls.any fun p => decide (p.1 = k) := by
    unfold kvM
    rw [List.any_map]
    refine congrArg (fun f => ls.any f) (funext fun p => decide_eq_decide.mpr ⟨fun z => ?_, fun z => by show (Sum.inl ((p.1 : Nat) : Int) : Key) = _; rw [z]⟩)
    have := Sum.inl.inj (show (Sum.inl ((p.1 : Nat) : Int) : Key) = Sum.inl ((k : Nat) : Int) from z)
    omega
  rw [e]
  split
  · unfold kvM
    rw [List.map_map, List.map_map]
    refine List.map_congr_left fun p _ => ?_
    show (if (Sum.inl ((p.1 : Nat) : Int) : Key) = Sum.inl ((k : Nat) : Int) then ((Sum.inl ((p.1 : Nat) : Int) : Key), V.str ⟨#[c]⟩) else (Sum.inl ((p.1 : Nat) : Int), V.str ⟨#[p.2]⟩)) = _
    by_cases z : p.1 = k
    · rw [if_pos (by rw [z])]
      show _ = ((Sum.inl (((if p.1 = k then (p.1, c) else p).1 : Nat) : Int) : Key), V.str ⟨#[(if p.1 = k then (p.1, c) else p).2]⟩)
      rw [if_pos z]
    · rw [if_neg (by intro y; have := Sum.inl.inj y; omega)]
      show _ = ((Sum.inl (((if p.1 = k then (p.1, c) else p).1 : Nat) : Int) : Key), V.str ⟨#[(if p.1 = k then (p.1, c) else p).2]⟩)
      rw [if_neg z]
  · unfold kvM; rw [List.map_append]; rfl
theorem gL_map (k c j : Nat) : ∀ ls : List (Nat × Nat), gL (ls.map fun p => if p.1 = k then (p.1, c) else p) j = (gL ls j).map fun x => if j = k then c else x
  | [] => rfl
  | p :: ls => by
    rw [List.map_cons, gL_cons, gL_cons, gL_map k c j ls]
    by_cases e : p.1 = k
    · rw [if_pos e]
      show (if p.1 = j then some c else _) = _
      by_cases z : p.1 = j
      · rw [if_pos z, if_pos z]; show _ = some (if j = k then c else p.2); rw [if_pos (z ▸ e)]
      · rw [if_neg z, if_neg z]
    · rw [if_neg e]
      by_cases z : p.1 = j
      · rw [if_pos z, if_pos z]; show _ = some (if j = k then c else p.2); rw [if_neg (z ▸ e)]
      · rw [if_neg z, if_neg z]
theorem gL_any (k : Nat) : ∀ ls : List (Nat × Nat), (ls.any fun p => decide (p.1 = k)) = (gL ls k).isSome
  | [] => rfl
  | p :: ls => by
    rw [List.any_cons, gL_cons, gL_any k ls]
    by_cases e : p.1 = k
    · rw [if_pos e, decide_eq_true e]; rfl
    · rw [if_neg e, decide_eq_false e, Bool.false_or]
theorem gL_snoc (k c j : Nat) : ∀ ls : List (Nat × Nat), gL (ls ++ [(k, c)]) j = (gL ls j).or (if k = j then some c else none)
  | [] => by rw [List.nil_append, gL_cons]; rfl
  | p :: ls => by
    rw [List.cons_append, gL_cons, gL_cons, gL_snoc k c j ls]
    by_cases e : p.1 = j
    · rw [if_pos e, if_pos e]; rfl
    · rw [if_neg e, if_neg e]
theorem gL_put (ls : List (Nat × Nat)) (k c j : Nat) : gL (putL ls k c) j = if j = k then some c else gL ls j := by
  unfold putL
  rw [gL_any]
  split
  · rename_i h
    rw [gL_map]
    by_cases e : j = k
    · subst e
      obtain ⟨x, hx⟩ := Option.isSome_iff_exists.mp h
      rw [hx, if_pos rfl]; show some (if j = j then c else x) = _; rw [if_pos rfl]
    · rw [if_neg e]
      cases gL ls j with
      | none => rfl
      | some x => show some (if j = k then c else x) = _; rw [if_neg e]
  · rename_i h
    rw [gL_snoc]
    by_cases e : j = k
    · subst e
      rw [if_pos rfl, if_pos rfl]
      cases z : gL ls j with
      | none => rfl
      | some x => rw [z] at h; exact absurd rfl h
    · rw [if_neg (fun z => e z.symm), if_neg e]
      cases gL ls j <;> rfl
theorem putL_keys (ls : List (Nat × Nat)) (k c : Nat) : (putL ls k c).map (·.1) = if k ∈ ls.map (·.1) then ls.map (·.1) else ls.map (·.1) ++ [k] := by
  unfold putL
  have e : (ls.any fun p => decide (p.1 = k)) = decide (k ∈ ls.map (·.1)) := by
    rw [Bool.eq_iff_iff, List.any_eq_true, decide_eq_true_iff, List.mem_map]
    constructor
    · rintro ⟨p, h1, h2⟩; exact ⟨p, h1, of_decide_eq_true h2⟩
    · rintro ⟨p, h1, h2⟩; exact ⟨p, h1, decide_eq_true h2⟩
  rw [e]
  by_cases h : k ∈ ls.map (·.1)
  · rw [if_pos (decide_eq_true h), if_pos h, List.map_map]
    refine List.map_congr_left fun p _ => ?_
    show (if p.1 = k then (p.1, c) else p).1 = p.1
    split <;> rfl
  · rw [if_neg (by rw [decide_eq_false h]; exact Bool.false_ne_true), if_neg h, List.map_append]; rfl
/-- the letters are letters, the keys unlike and below n -/
structure LsOk (n : Nat) (ls : List (Nat × Nat)) : Prop where
  ok : ∀ p ∈ ls, p.1 < n ∧ 97 ≤ p.2 ∧ p.2 ≤ 122
  nd : (ls.map (·.1)).Nodup
theorem LsOk.nil {n : Nat} : LsOk n [] := ⟨fun p h => absurd h (List.not_mem_nil), List.Pairwise.nil⟩
theorem LsOk.put {n : Nat} {ls : List (Nat × Nat)} {k c : Nat} (h : LsOk n ls) (hk : k < n) (h1 : 97 ≤ c) (h2 : c ≤ 122) : LsOk n (putL ls k c) := by
  refine ⟨fun p hp => ?_, ?_⟩
  · unfold putL at hp
    split at hp
    · obtain ⟨q, hq, rfl⟩ := List.mem_map.mp hp
      have := h.ok q hq
      split
      · exact ⟨this.1, h1, h2⟩
      · exact this
    · rcases List.mem_append.mp hp with hp | hp
      · exact h.ok p hp
      · rw [List.mem_singleton.mp hp]; exact ⟨hk, h1, h2⟩
  · rw [putL_keys]
    split
    · exact h.nd
    · rename_i z
      rw [List.nodup_append]
      exact ⟨h.nd, List.pairwise_singleton _ _, fun a ha b hb => by rw [List.mem_singleton.mp hb]; intro e; exact z (e ▸ ha)⟩
theorem LsOk.len {n : Nat} {ls : List (Nat × Nat)} (h : LsOk n ls) : ls.length ≤ n := by
  have := nodup_len (m := List.range n) h.nd fun k hk => by
    obtain ⟨p, hp, rfl⟩ := List.mem_map.mp hk
    exact List.mem_range.mpr (h.ok p hp).1
  simpa using this
theorem LsOk.let {n : Nat} {ls : List (Nat × Nat)} {k c : Nat} (h : LsOk n ls) (e : gL ls k = some c) : k < n ∧ 97 ≤ c ∧ c ≤ 122 := by
  unfold gL at e
  obtain ⟨p, hp, rfl⟩ := Option.map_eq_some_iff.mp e
  have := h.ok p (List.mem_of_find?_eq_some hp)
  have e2 : p.1 = k := by simpa using List.find?_some hp
  rw [← e2]; exact this
/-- the keys whose letters are known, and their letters -/
def knownL (f : Nat → Nat) (ls : List (Nat × Nat)) (n : Nat) : List (Nat × Nat) := (List.range n).filterMap fun k => (gL ls (f k)).map fun c => (k, c)
def knownN (f : Nat → Nat) (ls : List (Nat × Nat)) (n : Nat) : Nat := ((List.range n).filter fun k => (gL ls (f k)).isSome).length
/-- the least keys of the classes without a known letter -/
def openH (f : Nat → Nat) (ls : List (Nat × Nat)) (n : Nat) : List Nat := (List.range n).filter fun k => decide (f k = k) && (gL ls k).isNone
inductive Obs where
  | see (p c : Nat)
  | word (p : Nat) (w : List Nat)
  | alike (p o : Nat)
deriving DecidableEq
def obsV : Obs → List V
  | .see p c => [.str "see", .int (p : Nat), .str ⟨#[c]⟩]
  | .word p w => [.str "see_word", .int (p : Nat), .str (mkS w)]
  | .alike p o => [.str "hear_alike", .int (p : Nat), .int (o : Nat)]
def ObsAt (K : PySem.W.Frag) (H : Hp) (ms : List V) (ob : List Obs) : Prop := ms.length = ob.length ∧ ∀ (j : Nat) o, ob[j]? = some o → ∃ a, ms[j]? = some (V.ref a) ∧ SqT K H a (obsV o)
def Bt (A : List Addr) (H H' : Hp) : Prop := ∀ b o, b ∉ A → H b = some o → H' b = some o
def Kh (C : Addr) (H H' : Hp) : Prop := ∀ b o, (∀ dx fs, o ≠ .ins C dx fs) → (∀ kvs, o ≠ .dK kvs) → (∀ y L, o ≠ .lst (natV (y :: L))) → H b = some o → H' b = some o
section
variable {K : PySem.W.Frag} {CT CP CE CK C : Addr} {T : List (Addr × Str)} {A B : List Addr} {H H' H1 : Hp} {a b x h d t l r e : Addr} {o : HO} {v : V} {xs ms ps : List V} {s : Stp} {ss : List Stp} {n y : Nat} {ob : List Obs} {os : List Op} {ds us : List Ent}
theorem Bt.refl : Bt A H H := fun _ _ _ h => h
theorem Bt.trans (e : Bt A H H1) (g : Bt A H1 H') : Bt A H H' := fun b o hb h => g b o hb (e b o hb h)
theorem Bt.same (S : Same H H') : Bt A H H' := fun b o _ h => S b o h
theorem Bt.but (e : But x H H') (hx : x ∈ A) : Bt A H H' := fun b o hb h => e b o (fun z => hb (z ▸ hx)) h
/-- what is new is changed -/
theorem Bt.fresh (S : Same H H1) (e : Bt A H1 H') (n : ∀ a ∈ A, H a = none) : Same H H' := fun b o q => e b o (fun z => by rw [n b z] at q; cases q) (S b o q)
theorem Kh.refl : Kh C H H := fun _ _ _ _ _ h => h
theorem Kh.trans (e : Kh C H H1) (g : Kh C H1 H') : Kh C H H' := fun b o h1 h2 h3 h => g b o h1 h2 h3 (e b o h1 h2 h3 h)
theorem Kh.same (S : Same H H') : Kh C H H' := fun b o _ _ _ h => S b o h
theorem nn_refs (h : ∀ v ∈ xs, isRef v = true) : ∀ y L, HO.lst xs ≠ .lst (natV (y :: L)) := by
  intro y L e
  cases e
  have := h (.int (y : Nat)) (by unfold natV; exact List.mem_cons_self)
  cases this
theorem Kh.tup (e : Kh C H H') (h : SqT K H a xs) : SqT K H' a xs := by
  rcases h with (h | ⟨o, h⟩) | h
  · exact .inl (.inl (e _ _ (fun _ _ z => nomatch z) (fun _ z => nomatch z) (fun _ _ z => nomatch z) h))
  · exact .inl (.inr ⟨o, e _ _ (fun _ _ z => nomatch z) (fun _ z => nomatch z) (fun _ _ z => nomatch z) h⟩)
  · exact .inr h
theorem Kh.tu (e : Kh C H H') (h : H a = some (.tup xs)) : H' a = some (.tup xs) := e _ _ (fun _ _ z => nomatch z) (fun _ z => nomatch z) (fun _ _ z => nomatch z) h
theorem Kh.li (e : Kh C H H') (n : ∀ v ∈ xs, isRef v = true) (h : H a = some (.lst xs)) : H' a = some (.lst xs) := e _ _ (fun _ _ z => nomatch z) (fun _ z => nomatch z) (nn_refs n) h
theorem Kh.lst (e : Kh C H H') (n : ∀ v ∈ xs, isRef v = true) (h : SqL K H a xs) : SqL K H' a xs := by
  rcases h with (h | ⟨o, h⟩) | h
  · exact .inl (.inl (e.li n h))
  · exact .inl (.inr ⟨o, e _ _ (fun _ _ z => nomatch z) (fun _ z => nomatch z) (fun _ _ z => nomatch z) h⟩)
  · exact .inr h
theorem Kh.tabs (e : Kh C H H') (t : Tabs T H) : Tabs T H' := by
  intro p hp
  obtain ⟨ps, h1, h2, h3⟩ := t p hp
  refine ⟨ps, e _ _ (fun _ _ z => nomatch z) (fun _ z => nomatch z) (fun _ _ z => nomatch z) h1, h2, fun pos cv hc => ?_⟩
  obtain ⟨c, h4, h5⟩ := h3 pos cv hc
  exact ⟨c, h4, e _ _ (fun _ _ z => nomatch z) (fun _ z => nomatch z) (fun _ _ z => nomatch z) h5⟩
theorem StepsAt.kh (h : StepsAt K H ms ss) (e : Kh C H H') : StepsAt K H' ms ss := ⟨h.1, fun j s q => let ⟨v, a, b, c, z⟩ := h.2 j s q; ⟨v, a, b, c, e.tup z⟩⟩
theorem PartAt.kh (hn : CP ≠ C) (h : PartAt CP H v n y s) (e : Kh C H H') : PartAt CP H' v n y s := by
  cases s with
  | wr w => obtain ⟨p, dx, ev, q⟩ := h; exact ⟨p, dx, ev, e _ _ (ins_ne hn) (fun _ z => nomatch z) (fun _ _ z => nomatch z) q⟩
  | pa f l t => obtain ⟨p, dx, ev, q⟩ := h; exact ⟨p, dx, ev, e _ _ (ins_ne hn) (fun _ z => nomatch z) (fun _ _ z => nomatch z) q⟩
theorem PartsAt.kh (hn : CP ≠ C) (h : PartsAt CP H ps ss) (e : Kh C H H') : PartsAt CP H' ps ss := ⟨h.1, fun j s q => let ⟨v, a, b⟩ := h.2 j s q; ⟨v, a, b.kh hn e⟩⟩
theorem TX.kh (h : TX K CT CP H a ss) (hT : CT ≠ C) (hP : CP ≠ C) (e : Kh C H H') : TX K CT CP H' a ss :=
  let ⟨t, x, y⟩ := h; ⟨t, ⟨e _ _ (ins_ne hT) (fun _ z => nomatch z) (fun _ _ z => nomatch z) x.ins, e.tup x.made, x.stp.kh e, e.li x.prt.refs x.pls, x.prt.kh hP e, x.ok, x.few⟩, y⟩
theorem TS'.kh (h : TS' K H a ss) (e : Kh C H H') : TS' K H' a ss := let ⟨ms, x, y⟩ := h; ⟨ms, e.tup x, y.kh e⟩
theorem OpAt.kh {o : Op} (h : OpAt K H v o) (e : Kh C H H') : OpAt K H' v o := let ⟨a, b, c⟩ := h; ⟨a, b, e.tup c⟩
theorem OpsAt.kh (h : OpsAt K H ms os) (e : Kh C H H') : OpsAt K H' ms os := ⟨h.1, fun j s q => let ⟨v, a, b⟩ := h.2 j s q; ⟨v, a, b.kh e⟩⟩
theorem EntsAt.kh {es : List Ent} (hT : CT ≠ C) (hP : CP ≠ C) (h : EntsAt K CT CP H ms es) (k : Kh C H H') : EntsAt K CT CP H' ms es :=
  ⟨h.1, fun j s q => let ⟨v, a, t, o, b, c, ev, q0, h1, h2, h3⟩ := h.2 j s q; ⟨v, a, t, o, b, c, ev, k.tup q0, h1.kh k, h2.kh hT hP k, h3.kh hT hP k⟩⟩
theorem EdAt.kh (hT : CT ≠ C) (hP : CP ≠ C) (hE : CE ≠ C) (h : EdAt K CT CP CE H e ss ds us) (k : Kh C H H') : EdAt K CT CP CE H' e ss ds us := by
  obtain ⟨i, a, b⟩ := h
  exact ⟨i, ⟨k _ _ (ins_ne hE) (fun _ z => nomatch z) (fun _ _ z => nomatch z) a.ins, a.tx.kh hT hP k, k.tup a.dn, a.de.kh hT hP k, k.tup a.un, a.ue.kh hT hP k⟩, b⟩
theorem ObsAt.kh (h : ObsAt K H ms ob) (e : Kh C H H') : ObsAt K H' ms ob := ⟨h.1, fun j s q => let ⟨a, b, c⟩ := h.2 j s q; ⟨a, b, e.tup c⟩⟩
theorem ObsAt.kl (h : ObsAt K H ms ob) (e : Kl T H H') : ObsAt K H' ms ob := ⟨h.1, fun j s q => let ⟨a, b, c⟩ := h.2 j s q; ⟨a, b, e.tup c⟩⟩
theorem ObsAt.mono (h : ObsAt K H ms ob) (e : Same H H') : ObsAt K H' ms ob := ⟨h.1, fun j s q => let ⟨a, b, c⟩ := h.2 j s q; ⟨a, b, Same.tup e c⟩⟩
theorem ObsAt.nil : ObsAt K H [] [] := ⟨rfl, fun _ _ h => by simp at h⟩
theorem ObsAt.snoc {o : Obs} (h : ObsAt K H ms ob) (q : SqT K H a (obsV o)) : ObsAt K H (ms ++ [.ref a]) (ob ++ [o]) := by
  refine ⟨by simp [h.1], fun j s hj => ?_⟩
  rcases Nat.lt_or_ge j ob.length with z | z
  · rw [List.getElem?_append_left z] at hj
    obtain ⟨v', a, b⟩ := h.2 j s hj
    exact ⟨v', by rw [List.getElem?_append_left (by rw [h.1]; exact z)]; exact a, b⟩
  · have e : j = ob.length := by
      have := (List.getElem?_eq_some_iff.mp hj).1
      rw [List.length_append, List.length_singleton] at this; omega
    subst e
    rw [List.getElem?_append_right (Nat.le_refl _), Nat.sub_self] at hj
    cases hj
    exact ⟨a, by rw [← h.1, List.getElem?_append_right (Nat.le_refl _), Nat.sub_self]; rfl, q⟩
end
def rdF (t h d s : V) : List (Str × V) := [("source_text", t), ("heads", h), ("letters", d), ("seen", s)]
section
variable {t h d s v : V} {f : Str}
theorem rdF_text : (rdF t h d s).lookup ("source_text" : Str) = some t := by unfold rdF; rw [List.lookup_cons_self]
theorem rdF_heads : (rdF t h d s).lookup ("heads" : Str) = some h := by
  unfold rdF; rw [List.lookup_cons, show (("heads" : Str) == "source_text") = false by decide +kernel]; simp only; rw [List.lookup_cons_self]
theorem rdF_letters : (rdF t h d s).lookup ("letters" : Str) = some d := by
  unfold rdF; rw [List.lookup_cons, show (("letters" : Str) == "source_text") = false by decide +kernel]; simp only
  rw [List.lookup_cons, show (("letters" : Str) == "heads") = false by decide +kernel]; simp only; rw [List.lookup_cons_self]
theorem rdF_seen : (rdF t h d s).lookup ("seen" : Str) = some s := by
  unfold rdF; rw [List.lookup_cons, show (("seen" : Str) == "source_text") = false by decide +kernel]; simp only
  rw [List.lookup_cons, show (("seen" : Str) == "heads") = false by decide +kernel]; simp only
  rw [List.lookup_cons, show (("seen" : Str) == "letters") = false by decide +kernel]; simp only; rw [List.lookup_cons_self]
theorem rdF_put : putF "seen" v (rdF t h d s) = rdF t h d v := by unfold rdF; rw [putF_miss (by decide +kernel), putF_miss (by decide +kernel), putF_miss (by decide +kernel), putF_hit]
theorem rdF_made : putF "seen" s (putF "letters" d (putF "heads" h (putF "source_text" t []))) = rdF t h d s := by
  unfold rdF
  rw [putF_nil]
  rw [putF_miss (f := "heads") (g := "source_text") (by decide +kernel), putF_nil]
  rw [putF_miss (f := "letters") (g := "source_text") (by decide +kernel), putF_miss (f := "letters") (g := "heads") (by decide +kernel), putF_nil]
  rw [putF_miss (f := "seen") (g := "source_text") (by decide +kernel), putF_miss (f := "seen") (g := "heads") (by decide +kernel), putF_miss (f := "seen") (g := "letters") (by decide +kernel), putF_nil]
theorem rdF_no (h' : f ≠ "source_text" ∧ f ≠ "heads" ∧ f ≠ "letters" ∧ f ≠ "seen") : (rdF t h d s).lookup f = none := by
  unfold rdF
  simp only [List.lookup_cons, beq_false_of_ne h'.1, beq_false_of_ne h'.2.1, beq_false_of_ne h'.2.2.1, beq_false_of_ne h'.2.2.2, List.lookup_nil]
theorem rdF_len : (rdF t h d s).length < 1000 := by show 4 < 1000; decide
end
structure RdI where
  dx : Addr
  t : Addr
  s : Addr
  sm : List V
  hs : List Nat
/-- the reader at x, its heads at h, its dict at d: its text, the roots, the letters of roots, the observations -/
structure RdAt (K : PySem.W.Frag) (CT CP CK : Addr) (H : Hp) (x h d : Addr) (ss : List Stp) (f : Nat → Nat) (ls : List (Nat × Nat)) (ob : List Obs) (i : RdI) : Prop where
  ins : H x = some (.ins CK i.dx (rdF (.ref i.t) (.ref h) (.ref d) (.ref i.s)))
  tx : TX K CT CP H i.t ss
  hl : H h = some (.lst (natV i.hs))
  dl : H d = some (.dK (kvM ls))
  sn : SqT K H i.s i.sm
  obs : ObsAt K H i.sm ob
  rt : Rt i.hs f
  len : i.hs.length = (tyL ss).length
  lok : LsOk (tyL ss).length ls
def Reader (K : PySem.W.Frag) (CT CP CK : Addr) (H : Hp) (x h d : Addr) (ss : List Stp) (f : Nat → Nat) (ls : List (Nat × Nat)) (ob : List Obs) : Prop := ∃ i, RdAt K CT CP CK H x h d ss f ls ob i
section
variable {K : PySem.W.Frag} {CT CP CE CK : Addr} {H H' : Hp} {x h d l p : Addr} {ss : List Stp} {f : Nat → Nat} {ls : List (Nat × Nat)} {ob : List Obs} {i : RdI} {Q : VK} {E : XK}
theorem RdAt.same (r : RdAt K CT CP CK H x h d ss f ls ob i) (S : Same H H') : RdAt K CT CP CK H' x h d ss f ls ob i :=
  ⟨S _ _ r.ins, r.tx.kp (.same S), S _ _ r.hl, S _ _ r.dl, Same.tup S r.sn, r.obs.kh (C := x) (.same S), r.rt, r.len, r.lok⟩
theorem Reader.same (r : Reader K CT CP CK H x h d ss f ls ob) (S : Same H H') : Reader K CT CP CK H' x h d ss f ls ob := let ⟨i, a⟩ := r; ⟨i, a.same S⟩
theorem Reader.kl {T : List (Addr × Str)} (r : Reader K CT CP CK H x h d ss f ls ob) (k : Kl T H H') : Reader K CT CP CK H' x h d ss f ls ob := let ⟨i, a⟩ := r
  ⟨i, k.keep _ _ nr_ins (fun _ z => nomatch z) a.ins, a.tx.kl k, k.keep _ _ nr_natV (fun _ z => nomatch z) a.hl, k.keep _ _ id (fun _ z => nomatch z) a.dl, k.tup a.sn, a.obs.kl k, a.rt, a.len, a.lok⟩
theorem Reader.kp (r : Reader K CT CP CK H x h d ss f ls ob) (k : Kp H H') : Reader K CT CP CK H' x h d ss f ls ob := r.kl (T := []) (.kp k)
/-- an editor changes -/
theorem Reader.km {T : List (Addr × Str)} (hT : CT ≠ CE) (hP : CP ≠ CE) (hK : CK ≠ CE) (r : Reader K CT CP CK H x h d ss f ls ob) (k : Km CE T H H') : Reader K CT CP CK H' x h d ss f ls ob := let ⟨i, a⟩ := r
  ⟨i, k.keep _ _ nr_ins (fun _ z => nomatch z) (ins_ne hK) a.ins, a.tx.km hT hP k, k.li nr_natV a.hl, k.keep _ _ id (fun _ z => nomatch z) (fun _ _ z => nomatch z) a.dl, k.tup a.sn, ⟨a.obs.1, fun j o q => let ⟨b, e, g⟩ := a.obs.2 j o q; ⟨b, e, k.tup g⟩⟩, a.rt, a.len, a.lok⟩
theorem Reader.insM {m : Str} (r : Reader K CT CP CK H x h d ss f ls ob) (hm : m ≠ "source_text" ∧ m ≠ "heads" ∧ m ≠ "letters" ∧ m ≠ "seen" := by decide +kernel) : InsM H x CK m := let ⟨_, a⟩ := r; ⟨_, _, a.ins, rdF_no hm⟩
theorem Reader.insA (r : Reader K CT CP CK H x h d ss f ls ob) : InsA H x CK := let ⟨_, a⟩ := r; ⟨_, _, a.ins⟩
/-- the reader changes: texts, rows, tables, editors stay -/
theorem Reader.kh (r : Reader K CT CP CK H x h d ss f ls ob) (h0 : 0 < (tyL ss).length) (e : Bt [x, h, d] H H') : Kh CK H H' := by
  obtain ⟨i, a⟩ := r
  refine fun b o h1 h2 h3 q => e b o ?_ q
  intro hb
  simp only [List.mem_cons, List.not_mem_nil, or_false] at hb
  rcases hb with rfl | rfl | rfl
  · rw [a.ins] at q; cases q; exact h1 _ _ rfl
  · rw [a.hl] at q
    cases q
    have hl := a.len
    cases hh : i.hs with
    | nil => rw [hh] at hl; simp at hl; omega
    | cons y L => exact h3 y L (by rw [hh])
  · rw [a.dl] at q; cases q; exact h2 _ rfl
variable (K CT CP CK)
def sp_KeyReader_init : Sp := fun vs H Q _ => ∃ x dx t ss, vs = [.ref x, .ref t] ∧ H x = some (.ins CK dx []) ∧ TX K CT CP H t ss ∧ ∀ H' h d, But x H H' → H h = none → H d = none → h ≠ x → d ≠ x → h ≠ d → Reader K CT CP CK H' x h d ss id [] [] → Q .non H'
def sp_KeyReader_head : Sp := fun vs H Q _ => ∃ x h d ss f ls ob, ∃ k : Nat, vs = [.ref x, .int k] ∧ Reader K CT CP CK H x h d ss f ls ob ∧ k < (tyL ss).length ∧ Q (.int (f k : Nat)) H
def sp_KeyReader_known_count : Sp := fun vs H Q _ => ∃ x h d ss f ls ob, vs = [.ref x] ∧ Reader K CT CP CK H x h d ss f ls ob ∧ ∀ H', Same H H' → Q (.int (knownN f ls (tyL ss).length : Nat)) H'
def sp_KeyReader_known_letters : Sp := fun vs H Q _ => ∃ x h d ss f ls ob, vs = [.ref x] ∧ Reader K CT CP CK H x h d ss f ls ob ∧ ∀ H' p, Same H H' → H p = none → H' p = some (.dK (kvM (knownL f ls (tyL ss).length))) → Q (.ref p) H'
def sp_KeyReader_observations : Sp := fun vs H Q _ => ∃ x h d ss f ls ob, vs = [.ref x] ∧ Reader K CT CP CK H x h d ss f ls ob ∧ ob.length ≤ 10000 ∧ ∀ H' p ms, Same H H' → H p = none → H' p = some (.lst ms) → ObsAt K H' ms ob → Q (.ref p) H'
def sp_KeyReader_open_heads : Sp := fun vs H Q _ => ∃ x h d ss f ls ob, vs = [.ref x] ∧ Reader K CT CP CK H x h d ss f ls ob ∧ ∀ H' p, Same H H' → H p = none → H' p = some (.lst (natV (openH f ls (tyL ss).length))) → Q (.ref p) H'
end
end L2.Px
set_option Elab.async false
set_option linter.all false
set_option maxRecDepth 100000
set_option maxHeartbeats 4000000
namespace L2.Px
open PySem PySem.Spec PyProof.Rows
end L2.Px
set_option Elab.async false
set_option linter.all false
set_option maxRecDepth 100000
set_option maxHeartbeats 2000000
namespace L2.Px
open PySem PySem.Spec PyProof.Rows StX TL
theorem memF_rising (f : Nat → Nat) (n r : Nat) : (memF f n r).Pairwise (· < ·) := List.pairwise_lt_range.filter _
theorem rootsF_rising (f : Nat → Nat) (n : Nat) : (rootsF f n).Pairwise (· < ·) := List.pairwise_lt_range.filter _
theorem memF_head {f : Nat → Nat} {n r : Nat} (hf : ∀ k, k < n → f k ≤ k) (hr : r ∈ rootsF f n) : (memF f n r)[0]? = some r := by
  have hm : r ∈ memF f n r := mem_memF.mpr (mem_rootsF.mp hr)
  have hp := memF_rising f n r
  have hs : ∀ k ∈ memF f n r, r ≤ k := fun k hk => by
    obtain ⟨h1, h2⟩ := mem_memF.mp hk
    have := hf k h1
    omega
  revert hm hp hs
  generalize memF f n r = m
  intro hm hp hs
  cases m with
  | nil => cases hm
  | cons a t =>
    rcases List.mem_cons.mp hm with e | h
    · rw [e]; rfl
    · have h1 := (List.pairwise_cons.mp hp).1 r h
      have h2 := hs a List.mem_cons_self
      omega
theorem flat_cls_nd (f : Nat → Nat) (n : Nat) : ∀ {rs : List Nat}, rs.Nodup → ((rs.map (memF f n)).flatten).Nodup
  | [], _ => List.nodup_nil
  | r :: rs, h => by
    obtain ⟨h1, h2⟩ := List.nodup_cons.mp h
    rw [List.map_cons, List.flatten_cons, List.nodup_append]
    refine ⟨List.nodup_range.filter _, flat_cls_nd f n h2, fun a ha b hb e => ?_⟩
    subst e
    obtain ⟨l, hl, hb⟩ := List.mem_flatten.mp hb
    obtain ⟨r', hr', rfl⟩ := List.mem_map.mp hl
    have e1 := (mem_memF.mp ha).2
    have e2 := (mem_memF.mp hb).2
    exact h1 (by rw [← e1, e2]; exact hr')
theorem flat_take_len (f : Nat → Nat) {n : Nat} (i : Nat) : (((clsF f n).take i).flatten).length ≤ n := by
  have h2 : (((clsF f n).take i).flatten).Nodup := by
    have := flat_cls_nd f n (rs := (rootsF f n).take i) ((rootsF_nodup f n).sublist (List.take_sublist _ _))
    rwa [List.map_take] at this
  have := nodup_len (m := List.range n) h2 fun k hk => by
    obtain ⟨l, hl, hk⟩ := List.mem_flatten.mp hk
    obtain ⟨r, hr, rfl⟩ := List.mem_map.mp (List.mem_of_mem_take hl)
    exact List.mem_range.mpr (mem_memF.mp hk).1
  rwa [List.length_range] at this
section
variable {K : PySem.W.Frag} {CI CT CP : Addr} {H H' H1 : Hp} {a b l r p : Addr} {L M : List Nat} {Q : VK} {E : XK} {cs ds : List (Nat × Nat)} {cl : List (List Nat)} {i j : Int} {ss tt : List Stp} {n c : Nat} {X : Cx} {σ : St} {f : Nat → Nat}
def rLenDA : List V → Hp → VK → Prop := fun xs H Q => ∃ a kvs, xs = [V.ref a] ∧ H a = some (.dK kvs) ∧ Q (.int kvs.length) H
theorem lenDK : CallR X (.builtin "len") rLenDA := call_lenD
variable (K)
variable {K}
end
end L2.Px
namespace L2.Px
open PySem PySem.Spec PyProof.Rows StX TL
end L2.Px
set_option Elab.async false
set_option linter.all false
set_option maxRecDepth 100000
set_option maxHeartbeats 1000000
namespace L2.Px
open PySem PySem.Spec PyProof.Rows StX TL ClX LamX
section
variable {J : It} {n : Nat} {it : Nat → V} {H1 : Hp} {g : TG} {tt : TT} {tk tv : TE} {vs : List Nat} {σ : St} {D : Addr} {Qd : Hp → Prop}
/-- {kf x: vf x for a, b in .. if p}, the keys all unlike -/
theorem dc_filtG (P : Plain J n it H1) (hD : H1 D = none) (hn : n < sizeLine) (τ : Nat → St) (hw : ∀ i, wipe (τ i) vs = wipe σ vs) (hg : ∀ i H (R : St → Hp → Prop), i < n → Same H1 H → R (τ i) H → g (it i) (wipe σ vs) H R)
    (kf : Nat → Key) (vf : Nat → V) (p : Nat → Bool) (hk : ∀ i k, i < k → k < n → kf i ≠ kf k)
    (ht : ∀ i H (R : Bool → Hp → Prop), i < n → Same H1 H → (∀ H', Same H H' → R (p i) H') → tt (τ i) H R)
    (hs : ∀ i H (Q : VK), i < n → p i = true → Same H1 H → (∀ H', Same H H' → Q (kV (kf i)) H') → tk (τ i) H Q)
    (hv : ∀ i H (Q : VK), i < n → p i = true → Same H1 H → (∀ H', Same H H' → Q (vf i) H') → tv (τ i) H Q)
    (hd : ∀ H, Same H1 H → H D = some (.dK (((List.range n).filter p).map fun i => (kf i, vf i))) → Qd H) : DcW J g tt tk tv vs σ H1 D Qd := by
  refine ⟨fun i m H => m = n - i ∧ i ≤ n ∧ Same H1 H ∧ H D = some (.dK (((List.range i).filter p).map fun i => (kf i, vf i))), ⟨_, rfl, Nat.zero_le _, Same.new (Same.refl _) hD, upd_same⟩, ?_⟩
  rintro i m H ⟨rfl, hi, S, eD⟩
  by_cases hlt : i < n
  · refine .inr ⟨P.go i H S hlt, fun H' => i + 1 ≤ n ∧ Same H1 H' ∧ H' D = some (.dK (((List.range (i + 1)).filter p).map fun i => (kf i, vf i))), fun H' z => ⟨n - (i + 1), by omega, rfl, z⟩, fun x H' y => ?_⟩
    obtain ⟨e1, e2⟩ := P.yld i H x H' S hlt y
    subst e1 e2
    refine hg i H' _ hlt S ⟨hw i, ht i H' _ hlt S fun H2 S2 => ?_⟩
    by_cases hp : p i = true
    · rw [if_pos hp]
      refine hs i H2 _ hlt hp (S.trans S2) fun H3 S3 => hv i H3 _ hlt hp ((S.trans S2).trans S3) fun H4 S4 => ⟨_, kf i, rfl, S4 _ _ (S3 _ _ (S2 _ _ eD)), ?_, hlt, Same.mut (((S.trans S2).trans S3).trans S4) hD, ?_⟩
      · have := List.length_filter_le p (List.range i)
        rw [List.length_range] at this
        rw [List.length_map]; omega
      · rw [upd_same, putK_new, List.range_succ, List.filter_append, List.map_append]
        · simp [hp]
        · unfold valV
          rw [List.find?_eq_none.mpr]
          · rfl
          · intro kv hkv
            obtain ⟨q, hq, rfl⟩ := List.mem_map.mp hkv
            have := List.mem_range.mp (List.mem_filter.mp hq).1
            simpa using hk q i this hlt
    · rw [if_neg hp]
      refine ⟨hlt, S.trans S2, ?_⟩
      rw [S2 _ _ eD, List.range_succ, List.filter_append, List.map_append]
      simp [hp]
  · have e : i = n := by omega
    subst e
    exact .inl ⟨P.stop H S, hd H S eD⟩
end
/-- known letters as the comprehension makes them -/
theorem knownL_kv (f : Nat → Nat) (ls : List (Nat × Nat)) (n : Nat) : kvM (knownL f ls n) = ((List.range n).filter fun k => (gL ls (f k)).isSome).map fun k => ((Sum.inl ((k : Nat) : Int) : Key), V.str ⟨#[(gL ls (f k)).getD 0]⟩) := by
  unfold knownL kvM
  rw [List.map_filterMap]
  induction (List.range n) with
  | nil => rfl
  | cons k r ih =>
    rw [List.filterMap_cons, List.filter_cons]
    cases e : gL ls (f k) with
    | none => simpa using ih
    | some c =>
      simp only [Option.map_some, Option.isSome_some, if_true, List.map_cons, e, Option.getD_some]
      rw [ih]
section
variable {K : PySem.W.Frag} {CT CP CE CK C : Addr} {H H' : Hp} {x h d l p : Addr} {ss : List Stp} {f : Nat → Nat} {ls : List (Nat × Nat)} {ob : List Obs} {i : RdI} {Q : VK} {E : XK} {m : Str} {P : Prop} {k c : Nat} {L : List Nat}
theorem rd_insRd (r : RdAt K CT CP CK H x h d ss f ls ob i) (hm : m ≠ "source_text" ∧ m ≠ "heads" ∧ m ≠ "letters" ∧ m ≠ "seen") (q : P) : InsM H x CK m ∧ P := ⟨⟨_, _, r.ins, rdF_no hm⟩, q⟩
theorem rd_rdHead (r : RdAt K CT CP CK H x h d ss f ls ob i) (hk : k < (tyL ss).length) (q : Q (.int (f k : Nat)) H) : sp_KeyReader_head K CT CP CK [.ref x, .int (k : Nat)] H Q E := ⟨x, h, d, ss, f, ls, ob, k, rfl, ⟨i, r⟩, hk, q⟩
theorem kvM_dget (e : H d = some (.dK (kvM ls))) (k : Nat) : DGet H d (.int (k : Nat)) ((gL ls k).map fun c => V.str ⟨#[c]⟩) := by
  have := DGet.k (k := (Sum.inl ((k : Nat) : Int) : Key)) e
  rwa [kvM_val] at this
theorem kvM_dput (e : H d = some (.dK (kvM ls))) (hl : ls.length < 16777216) (k c : Nat) : DPut H d (.int (k : Nat)) (.str ⟨#[c]⟩) (upd H d (.dK (kvM (putL ls k c)))) := by
  have := DPut.k (k := (Sum.inl ((k : Nat) : Int) : Key)) (v := .str ⟨#[c]⟩) e (by unfold kvM; rw [List.length_map, sizeLine_eq]; exact hl)
  rwa [kvM_put] at this
theorem RdAt.ok (r : RdAt K CT CP CK H x h d ss f ls ob i) : (tyL ss).length ≤ 600 := by
  have h1 := tyL_small r.tx.ok
  have h2 := r.tx.few
  omega
theorem RdAt.spec (r : RdAt K CT CP CK H x h d ss f ls ob i) (hk : k < (tyL ss).length) : f k ≤ k ∧ i.hs[f k]?.getD 0 = f k ∧ f (f k) = f k := r.rt.spec k (by rw [r.len]; exact hk)
/-- the dict changes -/
theorem RdAt.put (r : RdAt K CT CP CK H x h d ss f ls ob i) (hT : CT ≠ CK) (hP : CP ≠ CK) (hk : k < (tyL ss).length) (h1 : 97 ≤ c) (h2 : c ≤ 122) : RdAt K CT CP CK (upd H d (.dK (kvM (putL ls k c)))) x h d ss f (putL ls k c) ob i := by
  have ne : ∀ {b o}, H b = some o → (∀ kvs, o ≠ .dK kvs) → b ≠ d := fun {b o} e n z => by subst z; rw [r.dl] at e; cases e; exact n _ rfl
  have B : But d H (upd H d (.dK (kvM (putL ls k c)))) := But.at But.refl
  have kh : Kh CK H (upd H d (.dK (kvM (putL ls k c)))) := fun b o _ n2 _ e => B b o (ne e n2) e
  exact ⟨B _ _ (ne r.ins fun _ z => nomatch z) r.ins, r.tx.kh hT hP kh, B _ _ (ne r.hl fun _ z => nomatch z) r.hl, upd_same, kh.tup r.sn, r.obs.kh kh, r.rt, r.len, r.lok.put hk h1 h2⟩
theorem Same.back {H1 : Hp} {a : Addr} (S : Same H H1) (h : H1 a = none) : H a = none := by
  cases e : H a with
  | none => rfl
  | some o => rw [S _ _ e] at h; cases h
/-- the row of observations changes -/
theorem RdAt.seen {s : Addr} {ms : List V} {ob' : List Obs} (r : RdAt K CT CP CK H x h d ss f ls ob i) (hT : CT ≠ CK) (hP : CP ≠ CK) (b : But x H H') (e : H' x = some (.ins CK i.dx (rdF (.ref i.t) (.ref h) (.ref d) (.ref s)))) (hq : SqT K H s ms) (ho : ObsAt K H ms ob') :
    RdAt K CT CP CK H' x h d ss f ls ob' { i with s := s, sm := ms } := by
  have km : Km CK [] H H' := Km.but b r.ins
  exact ⟨e, r.tx.km hT hP km, km.li nr_natV r.hl, km.keep _ _ id (fun _ z => nomatch z) (fun _ _ z => nomatch z) r.dl, km.tup hq, ⟨ho.1, fun j o q => let ⟨b, e, g⟩ := ho.2 j o q; ⟨b, e, km.tup g⟩⟩, r.rt, r.len, r.lok⟩
end
end L2.Px
set_option Elab.async false
set_option linter.all false
set_option maxRecDepth 100000
set_option maxHeartbeats 1000000
namespace L2.Px
open PySem PySem.Spec PyProof.Rows StX TL ClX LamX
theorem ip_mul {X : Cx} : PIp X .Mult (rI CMul fun i j => .int (i * j)) := iop_mul
/-- the letters behind a word seen from a place on -/
def lsW (f : Nat → Nat) (ss : List Stp) : Nat → List Nat → List (Nat × Nat) → List (Nat × Nat)
  | _, [], ls => ls
  | p, c :: r, ls => lsW f ss (p + 1) r (putL ls (f (kat ss p)) c)
/-- no letter of the word is against what is known -/
def okW (f : Nat → Nat) (ss : List Stp) : Nat → List Nat → List (Nat × Nat) → Prop
  | _, [], _ => True
  | p, c :: r, ls => (∀ c', gL ls (f (kat ss p)) = some c' → c' = c) ∧ okW f ss (p + 1) r (putL ls (f (kat ss p)) c)
/-- the letters behind two keys tied -/
def hearL (f : Nat → Nat) (ls : List (Nat × Nat)) (a b : Nat) : List (Nat × Nat) := match gL ls (max (f a) (f b)) with
  | some c => putL ls (min (f a) (f b)) c
  | none => ls
section
variable {f : Nat → Nat} {ls : List (Nat × Nat)} {ss : List Stp} {n a b k p : Nat} {w : List Nat}
theorem lsW_snoc : ∀ (w : List Nat) (p c : Nat) (ls : List (Nat × Nat)), lsW f ss p (w ++ [c]) ls = putL (lsW f ss p w ls) (f (kat ss (p + w.length))) c
  | [], p, c, ls => rfl
  | x :: r, p, c, ls => by
    show lsW f ss (p + 1) (r ++ [c]) _ = putL (lsW f ss (p + 1) r _) _ c
    rw [lsW_snoc r, show p + 1 + r.length = p + (x :: r).length by simp only [List.length_cons]; omega]
end
section
variable (K : PySem.W.Frag) (CT CP CK : Addr)
def sp_KeyReader_count_texts : Sp := fun vs H Q _ => ∃ x h d ss f ls ob, vs = [.ref x] ∧ Reader K CT CP CK H x h d ss f ls ob ∧ ∀ H', Same H H' → Q (.int (26 ^ (openH f ls (tyL ss).length).length : Nat)) H'
end
section
variable {K : PySem.W.Frag} {CT CP CE CK C : Addr} {H H' : Hp} {x h d l p : Addr} {ss : List Stp} {f : Nat → Nat} {ls : List (Nat × Nat)} {ob : List Obs} {i : RdI} {Q : VK} {E : XK} {k c a b : Nat}
/-- the heads change -/
theorem RdAt.tie (r : RdAt K CT CP CK H x h d ss f ls ob i) (hT : CT ≠ CK) (hP : CP ≠ CK) (ha : a < (tyL ss).length) (hb : b < (tyL ss).length) :
    RdAt K CT CP CK (upd H h (.lst (natV (i.hs.set (max (f a) (f b)) (min (f a) (f b)))))) x h d ss (tieF f a b) ls ob { i with hs := i.hs.set (max (f a) (f b)) (min (f a) (f b)) } := by
  have hl := r.len
  have B : But h H (upd H h (.lst (natV (i.hs.set (max (f a) (f b)) (min (f a) (f b)))))) := But.at But.refl
  have ne : ∀ {b o}, H b = some o → (∀ y L, o ≠ .lst (natV (y :: L))) → b ≠ h := fun {b o} e n z => by
    subst z; rw [r.hl] at e; cases e
    cases hh : i.hs with
    | nil => rw [hh] at hl; simp at hl; omega
    | cons y L => exact n y L (by rw [hh])
  have kh : Kh CK H (upd H h (.lst (natV (i.hs.set (max (f a) (f b)) (min (f a) (f b)))))) := fun b o _ _ n3 e => B b o (ne e n3) e
  exact ⟨B _ _ (ne r.ins fun _ _ z => nomatch z) r.ins, r.tx.kh hT hP kh, upd_same, B _ _ (ne r.dl fun _ _ z => nomatch z) r.dl, kh.tup r.sn, r.obs.kh kh, r.rt.tie (by rw [r.len]; exact ha) (by rw [r.len]; exact hb), by show (i.hs.set _ _).length = _; rw [List.length_set]; exact r.len, r.lok⟩
end
end L2.Px
set_option Elab.async false
set_option linter.all false
set_option maxRecDepth 100000
set_option maxHeartbeats 1000000
namespace L2.Px
open PySem PySem.Spec PyProof.Rows StX TL ClX LamX
section
variable {X : Cx} {K : PySem.W.Frag}
/-- sorted(d) of a dict whose keys are ints, however many -/
def rSortDI (K : PySem.W.Frag) : List V → Hp → VK → Prop := fun xs H Q => ∃ (a : Addr) (kvs : List (Key × V)) (ks : List Int), xs = [.ref a] ∧ Rd H a (.dK kvs) ∧ kvs.map (·.1) = ks.map Sum.inl ∧
    ∀ (ys : List Int) (p : Addr), ys.Perm ks → ys.Pairwise (· ≤ ·) → H p = none → Q (.ref p) (upd H p (.lst (ys.map V.int)))
theorem sortDI_any (hk : X.K = K) (hcalm : X.calm = true) : CallR X (.builtin "sorted") (rSortDI K) := by
  subst hk
  intro pins s σ H xs us Q I r q
  obtain ⟨a, kvs, ks, ex, hd, hks, q⟩ := q
  subst ex
  obtain ⟨u, eu, rx⟩ := vals1 r
  subst eu
  cases rx
  obtain ⟨z, lo, vs, rel, dd⟩ := dk_rd I.hok hd
  obtain ⟨ep, hat⟩ := dd.dictAt
  have hkeys : vs.map (·.1) = ks.map Sum.inl := rel.keys.symm.trans hks
  have hl : vs.length = ks.length := by
    have e := congrArg List.length hkeys
    rw [List.length_map, List.length_map] at e
    exact e
  have hlk : kvs.length = ks.length := by
    have e := congrArg List.length hks
    rw [List.length_map, List.length_map] at e
    exact e
  have h16 : vs.length ≤ sizeLine := by rw [hl, ← hlk]; exact z
  refine Calls.call_function_entry PyProof.Rows.kind_sorted PyProof.Rows.plain_sorted PyProof.Rows.entry_sorted (PyProof.Rows.args_sorted1 _) ?_
  unfold Builtin.«sorted»
  refine wpAny_bind (m := checkCount "sorted" 1 1 _) (wpAny_pure ?_)
  refine wpAny_bind (PySem.W.kdu_collect (A := X.A.in1) (PySem.W.kdl_dict (knd := mixKind X.prog X.w) (kvs := vs) (ep := ep) lo) (I.ok.hd hcalm) hat h16 fun h' tk acc hk hacc => ?_)
  have hal : acc.toList.length = ks.length := by rw [Array.length_toList, hacc.1, hl]
  have hS : IntsAre acc.toList ks := ints_each hal fun j v e => by
    obtain ⟨k, x, e1, e2⟩ := hacc.2 j v (by rw [← Array.getElem?_toList]; exact e)
    have e3 : (vs.map (·.1))[j]? = some k := by rw [List.getElem?_map, e1]; rfl
    rw [hkeys, List.getElem?_map] at e3
    cases e4 : ks[j]? with
    | none => rw [e4] at e3; cases e3
    | some y =>
      rw [e4] at e3
      have e5 : Sum.inl y = k := Option.some.inj e3
      subst e5
      rcases keyIs_shape (show keyIs (Sum.inl y) v = true from e2) with ⟨i, t, ek, ev⟩ | ⟨z, t, ek, ev⟩
      · cases ek
        exact ⟨y, t, rfl, ev⟩
      · cases ek
  have I1 : Inv X pins σ H { s with heap := h', toks := tk } := I.kept hk
  have hzz : acc.toList.length ≤ sizeLine := by rw [hal, ← hl]; exact h16
  refine wpAny_bind (wpAny_newList ?_ hzz)
  have hoL : (h'.push (seqObj "list" acc.toList.toArray 0)).get? h'.objs.size = some (seqObj "list" acc.toList.toArray 0) := Heap.get?_push_size _ rfl
  show wpAny _ _ _ _ _ { s with heap := h'.push (seqObj "list" acc.toList.toArray 0), toks := tk }
  refine wpAny_bind (wpAny_holding (wpAny_call_entry PyProof.Rows.slot_list_sort ⟨_, hoL, rfl⟩ PyProof.Rows.entry_list_sort
    (SrtO.list_sort_ord (s := { s with heap := h'.push (seqObj "list" acc.toList.toArray 0), toks := tk }) SrtO.swo_int hoL hzz (fun h2 => SrtO.ints_sortable hS h2) fun out h1 h2 => ⟨_, rfl, ?_⟩) (PyProof.Rows.args_list_sort _)))
  obtain ⟨g1, g2, g3⟩ := SrtO.ints_out hS h1 h2
  obtain ⟨e', he'⟩ := PyProof.Rows.sortedHeap_at (vs := acc.toList) (out := out.toArray) hoL
  have hlen : ((out.map SrtO.iv).map V.int).length ≤ sizeLine := by
    rw [List.length_map, g2.length_eq, ← hal]
    exact hzz
  refine wpAny_pure ⟨_, rfl, .ref h'.objs.size, upd H h'.objs.size (.lst ((out.map SrtO.iv).map V.int)), I1.laid (t' := tk) (fun b u e => ?_) (Nat.le_refl _)
    (show ObjOk X.prog X.w _ _ _ (.lst ((out.map SrtO.iv).map V.int)) from ⟨hlen, out, e', vals_of_ints g1, he'⟩), rfl, q _ _ g2 g3 (I1.hok.fresh (Nat.le_refl _))⟩
  have hb : b < h'.objs.size := Heap.lt_size e
  rw [PyProof.Rows.sortedHeap_old (Nat.ne_of_lt hb) (by rw [size_push']; exact Nat.lt_succ_of_lt hb)]
  exact Heap.get?_push_of_some _ e
end
end L2.Px
set_option Elab.async false
set_option linter.all false
set_option maxRecDepth 100000
set_option maxHeartbeats 2000000
namespace L2.Px
open PySem PySem.Spec PyProof.Rows StX LamX
end L2.Px
set_option Elab.async false
set_option linter.all false
set_option maxRecDepth 100000
set_option maxHeartbeats 1000000
namespace L2.Px
open PySem PySem.Spec PyProof.Rows StX
end L2.Px
set_option Elab.async false
set_option linter.all false
set_option maxRecDepth 100000
set_option maxHeartbeats 4000000
namespace L2.Px
open PySem PySem.Spec PyProof.Rows PySem.Froz
end L2.Px
set_option Elab.async false
set_option linter.all false
set_option maxRecDepth 100000
set_option maxHeartbeats 2000000
namespace L2.Px
open PySem PySem.Spec PyProof.Rows StX TL
theorem memF_id {n k : Nat} (hk : k < n) : memF id n k = [k] := rising_unique (lt := fun a b : Nat => a < b) (fun a => Nat.lt_irrefl _) (fun a b c => Nat.lt_trans) (memF_rising id n k) (by simp) fun x => by
  rw [mem_memF, List.mem_singleton]
  show x < n ∧ x = k ↔ _
  omega
theorem rootsF_eq {f : Nat → Nat} {n m : Nat} (h : ∀ k, (k < n ∧ f k = k) ↔ k < m) : rootsF f n = List.range m := rising_unique (lt := fun a b : Nat => a < b) (fun a => Nat.lt_irrefl _) (fun a b c => Nat.lt_trans) (rootsF_rising f n) List.pairwise_lt_range fun x => by rw [mem_rootsF, List.mem_range]; exact h x
theorem cls_id (n : Nat) : clsF id n = (List.range n).map fun k => [k] := by
  unfold clsF
  rw [rootsF_eq (m := n) fun k => by simp]
  exact List.map_congr_left fun k hk => memF_id (List.mem_range.mp hk)
end L2.Px
namespace L2.Px
open PySem PySem.Spec PyProof.Rows StX TL
section
variable {J : It} {n : Nat} {it : Nat → V} {H1 : Hp} {te : TE} {vs : List Nat} {σ : St} {D : Addr} {Qd : Hp → Prop} {j : Nat}
/-- lc_rel, the step told that the list itself stands -/
theorem lc_relD (P : Plain J n it H1) (hD : H1 D = none) (hn : n ≤ sizeLine) (hj : ∀ v, wipe ((wipe σ vs).set j (some v)) vs = wipe σ vs) (Rl : Nat → V → Hp → Prop) (mono : ∀ i y H H', But D H H' → Rl i y H → Rl i y H')
    (hs : ∀ i H (Q : VK), i < n → Same H1 H → H D ≠ none → (∀ y H', Same H H' → Rl i y H' → Q y H') → te ((wipe σ vs).set j (some (it i))) H Q)
    (hd : ∀ H ys, Same H1 H → H D = some (.lst ys) → ys.length = n → (∀ i, i < n → ∃ y, ys[i]? = some y ∧ Rl i y H) → Qd H) : LcW J (gName j) tYes te vs σ H1 D Qd := by
  refine ⟨fun i m H => m = n - i ∧ i ≤ n ∧ Same H1 H ∧ ∃ ys, H D = some (.lst ys) ∧ ys.length = i ∧ ∀ k, k < i → ∃ y, ys[k]? = some y ∧ Rl k y H, ⟨_, rfl, Nat.zero_le _, Same.new (Same.refl _) hD, [], upd_same, rfl, fun k hk => absurd hk (Nat.not_lt_zero _)⟩, ?_⟩
  rintro i m H ⟨rfl, hi, S, ys, eD, hl, hr⟩
  by_cases hlt : i < n
  · refine .inr ⟨P.go i H S hlt, fun H' => i + 1 ≤ n ∧ Same H1 H' ∧ ∃ ys, H' D = some (.lst ys) ∧ ys.length = i + 1 ∧ ∀ k, k < i + 1 → ∃ y, ys[k]? = some y ∧ Rl k y H', fun H' z => ⟨n - (i + 1), by omega, rfl, z⟩, fun x H' y => ?_⟩
    obtain ⟨e1, e2⟩ := P.yld i H x H' S hlt y
    subst e1 e2
    refine ⟨hj _, ?_⟩
    refine rd_yes (iteT ?_)
    refine hs i H' _ hlt S (by rw [eD]; simp) fun y2 H2 S2 r => ⟨ys, S2 _ _ eD, by omega, hlt, Same.mut (S.trans S2) hD, ys ++ [y2], upd_same, by simp [hl], fun k hk => ?_⟩
    by_cases hki : k < i
    · obtain ⟨y', h1, h2⟩ := hr k hki
      exact ⟨y', by rw [List.getElem?_append_left (by omega)]; exact h1, mono _ _ _ _ (But.at (But.same S2)) h2⟩
    · have ek : k = i := by omega
      subst ek
      exact ⟨y2, by rw [List.getElem?_append_right (by omega), hl]; simp, mono _ _ _ _ (But.at But.refl) r⟩
  · have e : i = n := by omega
    subst e
    exact .inl ⟨P.stop H S, hd H ys S eD hl hr⟩
end
end L2.Px
namespace L2.Px
open PySem PySem.Spec PyProof.Rows StX TL
end L2.Px
set_option Elab.async false
set_option linter.all false
set_option maxRecDepth 100000
set_option maxHeartbeats 2000000
namespace L2.Px
open PySem PySem.Spec PyProof.Rows StX TL
theorem none_of {A B : Hp} {b : Addr} (S : Same A B) (h : B b = none) : A b = none := by
  cases e : A b with
  | none => rfl
  | some o => rw [S _ _ e] at h; cases h
/-- the list at l holds lists, all of them new since H0 -/
structure ClsN (H0 H : Hp) (l : Addr) (cs : List (List Nat)) : Prop where
  new : H0 l = none
  at_ : ∃ as : List Addr, H l = some (.lst (as.map V.ref)) ∧ as.length = cs.length ∧ ∀ (i : Nat) c, cs[i]? = some c → ∃ a, as[i]? = some a ∧ H a = some (.lst (natV c)) ∧ H0 a = none
section
variable {K : PySem.W.Frag} {CI CT CP : Addr} {H H' H0 H1 : Hp} {a b l r p D : Addr} {L M : List Nat} {Q : VK} {E : XK} {cs : List (List Nat)} {n : Nat} {f : Nat → Nat} {cl : Nat → Addr} {i j : Int} {ss tt : List Stp} {ch : List (Nat × Nat)}
theorem ClsN.cls (h : ClsN H0 H l cs) : ClsAt H l cs := let ⟨_, as, e, n, g⟩ := h; ⟨as, e, n, fun i c hc => let ⟨a, x, y, _⟩ := g i c hc; ⟨a, x, y⟩⟩
theorem ClsN.back (h : ClsN H0 H l cs) (S : Same H1 H0) : ClsN H1 H l cs := let ⟨z, as, e, n, g⟩ := h; ⟨none_of S z, as, e, n, fun i c hc => let ⟨a, x, y, w⟩ := g i c hc; ⟨a, x, y, none_of S w⟩⟩
theorem ClsN.mono (h : ClsN H0 H l cs) (S : Same H H') : ClsN H0 H' l cs := let ⟨z, as, e, n, g⟩ := h; ⟨z, as, S _ _ e, n, fun i c hc => let ⟨a, x, y, w⟩ := g i c hc; ⟨a, x, S _ _ y, w⟩⟩
variable (K CI CT CP)
variable {K CI CT CP}
end
end L2.Px
set_option Elab.async false
set_option linter.all false
set_option maxRecDepth 100000
set_option maxHeartbeats 2000000
namespace L2.Px
open PySem PySem.Spec PyProof.Rows StX TL
/-- a list of these four items could be taken for a row only if its first item is a number -/
def goodL (ds : List PyData) : Prop := ∀ d0 i j k, ds = [d0, .int i, .int j, .int k] → ∃ n, d0 = .int n
/-- v is the data d, to a depth; made of numbers, texts, tuples, lists -/
def Dd (K : PySem.W.Frag) (H : Hp) : Nat → V → PyData → Prop
  | 0, _, _ => False
  | n + 1, v, d => (∃ i, v = .int i ∧ d = .int i) ∨ (∃ x, v = .str x ∧ d = .str x ∧ x.length ≤ sizeLine) ∨
    (∃ a xs ds, v = .ref a ∧ d = .tuple ds ∧ SqT K H a xs ∧ xs.length = ds.length ∧ xs.length ≤ sizeLine ∧ ∀ (i : Nat) x e, xs[i]? = some x → ds[i]? = some e → Dd K H n x e) ∨
    ∃ a xs ds, v = .ref a ∧ d = .list ds ∧ H a = some (.lst xs) ∧ goodL ds ∧ xs.length = ds.length ∧ xs.length ≤ sizeLine ∧ ∀ (i : Nat) x e, xs[i]? = some x → ds[i]? = some e → Dd K H n x e
section
variable {K : PySem.W.Frag} {H H' : Hp} {a b : Addr} {xs : List V} {ds : List PyData} {Q : VK} {E : XK}
theorem Dd.mono (S : Same H H') : ∀ {n : Nat} {v : V} {d : PyData}, Dd K H n v d → Dd K H' n v d
  | 0, _, _, h => h.elim
  | n + 1, _, _, h => by
    rcases h with h | h | ⟨a, xs, ds, h1, h2, h3, h4, h5, h6⟩ | ⟨a, xs, ds, h1, h2, h3, h4, h5, h6, h7⟩
    · exact .inl h
    · exact .inr (.inl h)
    · exact .inr (.inr (.inl ⟨a, xs, ds, h1, h2, Same.tup S h3, h4, h5, fun i x e p q => Dd.mono S (h6 i x e p q)⟩))
    · exact .inr (.inr (.inr ⟨a, xs, ds, h1, h2, S _ _ h3, h4, h5, h6, fun i x e p q => Dd.mono S (h7 i x e p q)⟩))
theorem Dd.ref_no {n : Nat} {i : Int} (h : Dd K H n (.ref a) (.int i)) : False := by
  cases n with
  | zero => exact h
  | succ n => rcases h with ⟨_, z, _⟩ | ⟨_, z, _⟩ | ⟨_, _, _, _, z, _⟩ | ⟨_, _, _, _, z, _⟩ <;> cases z
theorem Dd.int_at {n : Nat} {i : Int} {d : PyData} (h : Dd K H n (.int i) d) : d = .int i := by
  cases n with
  | zero => exact h.elim
  | succ n => rcases h with ⟨_, z, e⟩ | ⟨_, z, _⟩ | ⟨_, _, _, z, _⟩ | ⟨_, _, _, z, _⟩ <;> cases z; exact e
theorem dd_norow {n : Nat} (g : goodL ds) (hl : xs.length = ds.length) (h : ∀ (i : Nat) x e, xs[i]? = some x → ds[i]? = some e → Dd K H n x e) : ¬ isRow (.lst xs) := by
  intro z
  unfold isRow at z
  split at z
  · rename_i e1
    cases e1
    match ds, hl with
    | [d0, d1, d2, d3], _ =>
      have h0 := h 0 _ _ rfl rfl
      have h1 := h 1 _ _ rfl rfl
      have h2 := h 2 _ _ rfl rfl
      have h3 := h 3 _ _ rfl rfl
      have e1 := h1.int_at
      have e2 := h2.int_at
      have e3 := h3.int_at
      subst e1 e2 e3
      obtain ⟨m, rfl⟩ := g _ _ _ _ rfl
      exact h0.ref_no
  · exact z
theorem Dd.kp (k : Kp H H') : ∀ {n : Nat} {v : V} {d : PyData}, Dd K H n v d → Dd K H' n v d
  | 0, _, _, h => h.elim
  | n + 1, _, _, h => by
    rcases h with h | h | ⟨a, xs, ds, h1, h2, h3, h4, h5, h6⟩ | ⟨a, xs, ds, h1, h2, h3, h4, h5, h6, h7⟩
    · exact .inl h
    · exact .inr (.inl h)
    · exact .inr (.inr (.inl ⟨a, xs, ds, h1, h2, k.tup h3, h4, h5, fun i x e p q => Dd.kp k (h6 i x e p q)⟩))
    · exact .inr (.inr (.inr ⟨a, xs, ds, h1, h2, k _ _ (dd_norow h4 h5 h7) h3, h4, h5, h6, fun i x e p q => Dd.kp k (h7 i x e p q)⟩))
end
end L2.Px
set_option Elab.async false
set_option linter.all false
set_option maxRecDepth 100000
set_option maxHeartbeats 2000000
namespace L2.Px
open PySem PySem.Spec PyProof.Rows StX TL
section
variable {K : PySem.W.Frag} {CI CT CP : Addr} {H H' H0 H1 : Hp} {a b l r p D T : Addr} {L M : List Nat} {Q : VK} {E : XK} {cs : List (List Nat)} {n m : Nat} {f : Nat → Nat} {ss tt : List Stp} {ch : List (Nat × Nat)} {v w : V} {d e : PyData} {xs : List V} {ds : List PyData}
theorem Dd.int (i : Int) : Dd K H (n + 1) (.int i) (.int i) := .inl ⟨i, rfl, rfl⟩
theorem Dd.str {x : Str} (h : x.length ≤ sizeLine) : Dd K H (n + 1) (.str x) (.str x) := .inr (.inl ⟨x, rfl, rfl, h⟩)
theorem Dd.lst (h : H l = some (.lst xs)) (g : goodL ds) (hl : xs.length = ds.length) (hz : xs.length ≤ 16777216) (q : ∀ (i : Nat) x e, xs[i]? = some x → ds[i]? = some e → Dd K H n x e) : Dd K H (n + 1) (.ref l) (.list ds) :=
  .inr (.inr (.inr ⟨l, xs, ds, rfl, rfl, h, g, hl, by rw [sizeLine_eq]; exact hz, q⟩))
theorem Dd.tup (h : SqT K H l xs) (hl : xs.length = ds.length) (hz : xs.length ≤ 16777216) (q : ∀ (i : Nat) x e, xs[i]? = some x → ds[i]? = some e → Dd K H n x e) : Dd K H (n + 1) (.ref l) (.tuple ds) :=
  .inr (.inr (.inl ⟨l, xs, ds, rfl, rfl, h, hl, by rw [sizeLine_eq]; exact hz, q⟩))
end
end L2.Px
namespace L2.Px
open PySem PySem.Spec PyProof.Rows StX TL
/-- a new list, not p -/
def FrL (p : Addr) (H0 H : Hp) (l : Addr) : Prop := H0 l = none ∧ l ≠ p ∧ ∃ xs : List V, H l = some (.lst xs) ∧ xs.length ≤ 10000
/-- a new list of new lists -/
def FrC (p : Addr) (H0 H : Hp) (l : Addr) : Prop := FrL p H0 H l ∧ ∃ ms : List Addr, H l = some (.lst (ms.map V.ref)) ∧ ms.length ≤ 10000 ∧ ∀ m ∈ ms, FrL p H0 H m
section
variable {K : PySem.W.Frag} {CI CT CP : Addr} {H H' H0 H1 : Hp} {a b l r p D T : Addr} {L M : List Nat} {Q : VK} {E : XK} {cs : List (List Nat)} {n m : Nat} {f : Nat → Nat} {ss tt : List Stp} {ch : List (Nat × Nat)} {σ : St}
theorem FrL.mono (h : FrL p H0 H l) (S : Same H H') : FrL p H0 H' l := let ⟨a, b, xs, e, z⟩ := h; ⟨a, b, xs, S _ _ e, z⟩
theorem FrL.back (h : FrL p H0 H l) (S : Same H1 H0) : FrL p H1 H l := let ⟨a, b, xs, e, z⟩ := h; ⟨none_of S a, b, xs, e, z⟩
theorem FrC.mono (h : FrC p H0 H l) (S : Same H H') : FrC p H0 H' l := let ⟨a, ms, e, z, g⟩ := h; ⟨a.mono S, ms, S _ _ e, z, fun m hm => (g m hm).mono S⟩
theorem FrC.back (h : FrC p H0 H l) (S : Same H1 H0) : FrC p H1 H l := let ⟨a, ms, e, z, g⟩ := h; ⟨a.back S, ms, e, z, fun m hm => (g m hm).back S⟩
theorem FrL.mk {Hx : Hp} {xs : List V} (S : Same H Hx) (np : Hx p = none) (n : H0 l = none) (h : H l = some (.lst xs)) (hz : xs.length ≤ 10000) : FrL p H0 H l := ⟨n, ne_of_none (S _ _ h) np, xs, h, hz⟩
variable (K CT CP)
end
end L2.Px
set_option Elab.async false
set_option linter.all false
set_option maxRecDepth 100000
set_option maxHeartbeats 1000000
namespace L2.Px
open PySem PySem.Spec PyProof.Rows StX TL ClX LamX
end L2.Px
namespace L2.Px
open PySem PySem.Spec PyProof.Rows StX TL ClX LamX
section
variable {K : PySem.W.Frag} {CT CP : Addr} {H : Hp} {Q : VK} {l : Addr} {σ : St} {L M : List Nat} {ss : List Stp}
/-- a list of new pairs (text of one sign, number) -/
def PrsAt (H : Hp) (l : Addr) (cs : List Nat) (g : Nat → Nat) : Prop := ∃ xs, H l = some (.lst xs) ∧ xs.length = cs.length ∧ ∀ (i : Nat) (c : Nat), cs[i]? = some c → ∃ T, xs[i]? = some (V.ref T) ∧ H T = some (.tup [.str ⟨#[c]⟩, .int (g c : Nat)])
theorem PrsAt.mono {H' : Hp} {cs : List Nat} {g : Nat → Nat} (h : PrsAt H l cs g) (S : Same H H') : PrsAt H' l cs g :=
  let ⟨xs, e, hl, hx⟩ := h; ⟨xs, S _ _ e, hl, fun i c hc => let ⟨T, a, b⟩ := hx i c hc; ⟨T, a, S _ _ b⟩⟩
end
end L2.Px
namespace L2.Px
open PySem PySem.Spec PyProof.Rows StX TL ClX LamX
end L2.Px
namespace L2.Px
open PySem PySem.Spec PyProof.Rows StX TL ClX LamX
end L2.Px
namespace L2.Px
open PySem PySem.Spec PyProof.Rows StX TL ClX LamX
/-- v is a pair that is no range -/
def BadR (K : PySem.W.Frag) (H : Hp) (ss : List Stp) (v : V) : Prop := ∃ b x y, v = .ref b ∧ SqT K H b [x, y] ∧ NoSeq x ∧ NoSeq y ∧ NoRng ss x y
section
variable {K : PySem.W.Frag} {H H' : Hp} {b : Addr} {ss : List Stp} {v x y : V} {T : List (Addr × Str)}
theorem BadR.mono (h : BadR K H ss v) (S : Same H H') : BadR K H' ss v := let ⟨b, x, y, e, q, r⟩ := h; ⟨b, x, y, e, Same.tup S q, r⟩
theorem BadR.kx (h : BadR K H ss v) (S : Kx T H H') : BadR K H' ss v := let ⟨b, x, y, e, q, r⟩ := h; ⟨b, x, y, e, S.tup q, r⟩
end
end L2.Px
set_option Elab.async false
set_option linter.all false
set_option maxRecDepth 100000
set_option maxHeartbeats 1000000
namespace L2.Px
open PySem PySem.Spec PyProof.Rows StX TL ClX LamX
end L2.Px
set_option Elab.async false
set_option linter.all false
set_option maxRecDepth 100000
set_option maxHeartbeats 1000000
namespace L2.Px
open PySem PySem.Spec PyProof.Rows StX TL
theorem ChAt.kp {K : PySem.W.Frag} {H H' : Hp} {l : Addr} {cs : List (Nat × Nat)} {n : Nat} (h : ChAt K H l cs n) (k : Kp H H') : ChAt K H' l cs n := by
  obtain ⟨xs, e, hl, hx⟩ := h
  refine ⟨xs, k.keep _ _ (fun hr => ?_) e, hl, fun i c hc => ?_⟩
  · match xs, hr with
    | [.ref _, .int _, .int _, .int _], _ =>
      obtain ⟨_, _, _, T, eT, _⟩ := hx 1 (cs[1]'(by simp at hl; omega)) (List.getElem?_eq_getElem _)
      cases eT
  · obtain ⟨a, b, d, T, eT, q⟩ := hx i c hc
    exact ⟨a, b, d, T, eT, k.keep _ _ nr_tup q⟩
end L2.Px
set_option Elab.async false
set_option linter.all false
set_option maxRecDepth 100000
set_option maxHeartbeats 1000000
namespace L2.Px
open PySem PySem.Spec PyProof.Rows StX TL
/-- a word or None -/
def WV (v : V) : Prop := (∃ z : Str, v = .str z ∧ z.length ≤ 100 ∧ ∀ c ∈ tl z, c ≤ 122) ∨ v = .non
/-- a number or a bool -/
def NB (v : V) : Prop := (∃ i : Int, v = .int i) ∨ ∃ b : Bool, v = .bl b
def StF (xs : List V) : Prop := (∃ v, xs = [.str "write", v] ∧ WV v) ∨ ∃ a b c, xs = [.str "paste", a, b, c] ∧ NB a ∧ NB b ∧ NB c
theorem StF.head {xs : List V} (h : StF xs) : ∃ z r, xs = .str z :: r ∧ z ≠ "retype" := by
  rcases h with ⟨v, rfl, _⟩ | ⟨a, b, c, rfl, _⟩
  · exact ⟨_, _, rfl, by decide +kernel⟩
  · exact ⟨_, _, rfl, by decide +kernel⟩
inductive Due where
  | num (n : Nat)
  | step (n : Nat)
  | place
  | letter
def dueL : Due → List V
  | .num _ => []
  | .step n => [.str "error", .str "InvalidStep", .int (n : Nat)]
  | .place => [.str "error", .str "InvalidPlace"]
  | .letter => [.str "error", .str "InvalidLetter"]
def dueAt (K : PySem.W.Frag) (H : Hp) (v : V) : Due → Prop
  | .num n => v = .int (n : Nat)
  | d => ∃ p, v = .ref p ∧ H p = some (.tup (dueL d))
/-- what is due of an operation, its values xs, on the text of ss; the steps behind it; the operation in effect -/
inductive AftR (ss : List Stp) (xs : List V) : Due → List Stp → List Op → Prop
  | ok (o : Op) (eo : xs = opV o) (h : okOp ss o) : AftR ss xs (.num (opN ss o)) (aft ss o) [o]
  | step (f : StF xs) (h : ss.length = 30 ∨ isSt (sz ss : Nat) xs = false) : AftR ss xs (.step ss.length) ss []
  | place (p l : V) (eo : xs = [.str "retype", p, l]) (hp : NB p ∨ p = .non) (hl : WV l) (h : isInt 0 ((sz ss : Int) - 1) p = false) : AftR ss xs .place ss []
  | letter (p l : V) (eo : xs = [.str "retype", p, l]) (hp : NB p ∨ p = .non) (hl : WV l) (h : isInt 0 ((sz ss : Int) - 1) p = true) (g : isLet l = false) : AftR ss xs .letter ss []
section
variable {K : PySem.W.Frag} {CT CP CE : Addr} {H H' : Hp} {Q : VK} {E : XK} {r l a b : Addr} {i j : Int} {ms ns xs : List V} {ss ss' : List Stp} {d : Due} {os : List Op} {v : V}
theorem dueAt.mono (h : dueAt K H v d) (S : Same H H') : dueAt K H' v d := by
  cases d with
  | num n => exact h
  | step n => obtain ⟨p, e, q⟩ := h; exact ⟨p, e, S _ _ q⟩
  | place => obtain ⟨p, e, q⟩ := h; exact ⟨p, e, S _ _ q⟩
  | letter => obtain ⟨p, e, q⟩ := h; exact ⟨p, e, S _ _ q⟩
theorem rd_ifAndJ {t u : TT} {st su : TS} {D : Ends} {σ : St} {H : Hp} (P : Hp → Prop) (hb : ∀ Hc, P Hc → su D σ Hc) (h : (∀ Hc, P Hc → su D σ Hc) → tAnd t u σ H fun b H1 => if b = true then st D σ H1 else su D σ H1) : tIfS (tAnd t u) st su D σ H := h hb
/-- the same values, told twice -/
theorem alX_flat {n : Nat} (h : ∀ v ∈ xs, (∃ i, v = .int i) ∨ (∃ z : Str, v = .str z ∧ z.length ≤ sizeLine) ∨ v = .non) (hz : xs.length ≤ sizeLine) (ha : SqT K H a xs) (hb : SqT K H b xs) : AlX K H (n + 2) (.ref a) (.ref b) :=
  .inr (.inr (.inr ⟨a, b, xs, xs, rfl, rfl, .inl ⟨ha, hb⟩, rfl, hz, fun i x y hx hy => by
    rw [hx] at hy
    cases hy
    rcases h x (List.mem_of_getElem? hx) with ⟨i, rfl⟩ | ⟨z, rfl, hz⟩ | rfl
    · exact .inl ⟨i, rfl, rfl⟩
    · exact .inr (.inl ⟨z, rfl, rfl, hz⟩)
    · exact .inr (.inr (.inl ⟨rfl, rfl⟩))⟩))
theorem OpsAt.refs41 (h : OpsAt K H ms os) : ∀ v ∈ ms, isRef v = true := by
  intro v hv
  obtain ⟨j, hj⟩ := List.getElem?_of_mem hv
  have hl : j < os.length := by rw [← h.1]; exact (List.getElem?_eq_some_iff.mp hj).1
  obtain ⟨u, e, a, rfl, _⟩ := h.2 j _ (List.getElem?_eq_getElem hl)
  rw [hj] at e
  cases e
  rfl
end
section
variable {K : PySem.W.Frag} {CT CP CE C : Addr} {T : List (Addr × Str)} {H H' : Hp} {r le ld : Addr} {ms ns : List V} {ss : List Stp} {os : List Op}
/-- what the law holds: its dice, the names, its steps and its operations -/
structure LiS (K : PySem.W.Frag) (T : List (Addr × Str)) (H : Hp) (r le ld : Addr) (ms ns : List V) (ss : List Stp) (os : List Op) : Prop where
  row : RowAt K H r
  tab : LamX.Tabs T H
  el : H le = some (.lst ms)
  st : StepsAt K H ms ss
  dl : H ld = some (.lst ns)
  ops : OpsAt K H ns os
theorem LiS.km (h : LiS K T H r le ld ms ns ss os) (k : Km C T H H') (row : RowAt K H' r) : LiS K T H' r le ld ms ns ss os :=
  ⟨row, k.tabs h.tab, k.li (nr_refs h.st.refs) h.el, h.st.km k, k.li (nr_refs h.ops.refs41) h.dl, h.ops.1, fun j o q => let ⟨v, a, b, c, e⟩ := h.ops.2 j o q; ⟨v, a, b, c, k.tup e⟩⟩
theorem LiS.same (h : LiS K T H r le ld ms ns ss os) (k : Same H H') : LiS K T H' r le ld ms ns ss os := h.km (C := r) (.same k) (h.row.mono k)
theorem LiS.kp (h : LiS K T H r le ld ms ns ss os) (k : Kp H H') (row : RowAt K H' r) : LiS K T H' r le ld ms ns ss os := h.km (C := r) (.kp k) row
theorem LiS.kx (h : LiS K T H r le ld ms ns ss os) (k : Kx T H H') : LiS K T H' r le ld ms ns ss os := h.km (C := r) (.kl k.kl) (k.row h.row)
theorem LiS.but {x dx : Addr} {fs : List (Str × V)} (h : LiS K T H r le ld ms ns ss os) (b : But x H H') (e : H x = some (.ins CE dx fs)) : LiS K T H' r le ld ms ns ss os := h.km (Km.but (C := CE) b e) (h.row.but b e)
end
section
variable {K : PySem.W.Frag} {CT CP CE CIS CTL CIP CIL CTE : Addr} {Cs : List Addr} {H : Hp} {Q : VK} {x q : Addr} {xs : List V} {ss ss' : List Stp} {ds us : List Ent} {d : Due} {os1 : List Op}
theorem rd_ifSJ {t : TT} {st su : TS} {nx bk ct : St → Hp → Prop} {rt : VK} {σ : St} {H : Hp} (P : St → Hp → Prop) (hj : ∀ σ' Hc, P σ' Hc → nx σ' Hc) (h : ∀ nx' : St → Hp → Prop, (∀ σ' Hc, P σ' Hc → nx' σ' Hc) → tIfS t st su ⟨nx', rt, bk, ct⟩ σ H) : tIfS t st su ⟨nx, rt, bk, ct⟩ σ H := h nx hj
end
theorem dueAt.km {K : PySem.W.Frag} {C : Addr} {T : List (Addr × Str)} {H H' : Hp} {v : V} {d : Due} (h : dueAt K H v d) (k : Km C T H H') : dueAt K H' v d := by
  cases d with
  | num n => exact h
  | step n => obtain ⟨p, e, q⟩ := h; exact ⟨p, e, k.tu q⟩
  | place => obtain ⟨p, e, q⟩ := h; exact ⟨p, e, k.tu q⟩
  | letter => obtain ⟨p, e, q⟩ := h; exact ⟨p, e, k.tu q⟩
theorem dueAt.ref {K : PySem.W.Frag} {H : Hp} {v : V} {d : Due} (h : dueAt K H v d) (hd : ∀ n, d ≠ .num n) : ∃ p, v = .ref p ∧ SqT K H p (dueL d) := by
  cases d with
  | num n => exact absurd rfl (hd n)
  | step n => obtain ⟨p, e, q⟩ := h; exact ⟨p, e, SqT.of q⟩
  | place => obtain ⟨p, e, q⟩ := h; exact ⟨p, e, SqT.of q⟩
  | letter => obtain ⟨p, e, q⟩ := h; exact ⟨p, e, SqT.of q⟩
theorem AftR.ops {ss ss' : List Stp} {xs : List V} {d : Due} {os : List Op} (h : AftR ss xs d ss' os) : ((∃ n, d = .num n) ∧ ∃ o, os = [o] ∧ xs = opV o ∧ okOp ss o) ∨ ((∀ n, d ≠ .num n) ∧ os = []) := by
  cases h with
  | ok o eo h => exact .inl ⟨⟨_, rfl⟩, o, rfl, eo, h⟩
  | step f h => exact .inr ⟨fun n z => (by cases z), rfl⟩
  | place p l eo hp hl h => exact .inr ⟨fun n z => (by cases z), rfl⟩
  | letter p l eo hp hl h g => exact .inr ⟨fun n z => (by cases z), rfl⟩
end L2.Px
set_option Elab.async false
set_option linter.all false
set_option maxRecDepth 100000
set_option maxHeartbeats 2000000
namespace L2.Px
open PySem PySem.Spec PyProof.Rows StX TL
/-- the star promise of a generator around its body's own -/
def spStarG (n : Nat) (sp : SpG) : SpG := fun vs H Q E => ∃ ws rest, vs = ws ++ rest ∧ ws.length = n ∧ rest.length ≤ sizeLine ∧ ∀ p, H p = Option.none → sp (ws ++ [V.ref p]) (upd H p (.tup rest)) Q E
/-- the call of a generator def that lays a tuple of what is left over -/
def GSRun (P : Program) (w : World) (K : PySem.W.Frag) (mg : Str → Option Value) (base : Heap) (k : Nat) (f : Addr) (sp : SpG) : Prop :=
  ∀ (A : Around) (outer : List Env) (s : Shared) (H : Hp) (us : List Value) (vs : List V) (Q : List V → Hp → Prop) (E : XK), Room k A → Env0 P w K mg base A outer s H → Vals vs us → sp vs H Q E →
    codeAny (model P w) A (.call (.ref f) ⟨us, []⟩) (fun r s' => ∃ u o ws, r = .ok (.ret u) ∧ ObjOk P w (upd H s.heap.objs.size (.tup ws)) (s.heap.push o) s.heap.objs.size (.tup ws) ∧ (s.heap.push o).get? s.heap.objs.size = some o ∧
      GMade P w k outer (upd H s.heap.objs.size (.tup ws)) { s with heap := s.heap.push o } [] Q E u s') s
section
variable {P : Program} {w : World} {K : PySem.W.Frag} {mg : Str → Option Value} {base : Heap} {k : Nat} {f : Addr} {name qual : Str} {params : Arguments} {body : List Stmt} {scope : Scope} {dV kV doc pm cdv ct oc : Value} {an od : Option Addr}
  {osl : Array (Option Value)} {N ps : List Str} {sp : SpG}
/-- arguments that are bound, and a frame: the generator that is made then has not begun -/
theorem gen_fresh {A : Around} {outer : List Env} {s s1 : Shared} {H : Hp} {us : List Value} {vs : List V} {Q : List V → Hp → Prop} {E : XK} {go : Obj} {nm qn : Value} {tk : Nat} (S : GScope N ps scope) (e0 : Env0 P w K mg base A outer s H) (hl : vs.length = ps.length) (r : Vals vs us)
    (x : InCallC s s.heap.objs.size (bindL (envOfC qual scope s.heap.objs.size f cdv).kindOf (ps.zip us) fun _ => none) (cellsFrom (s.heap.objs.size + 1) scope.names []) (bindC (envOfC qual scope s.heap.objs.size f cdv).kindOf (ps.zip us) fun _ => none) s1)
    (hbody : ∀ (Aw : Around) (pn : List (Addr × Obj)), Room k (Aw.deeper (envOfC qual scope s.heap.objs.size f cdv)) →
      ∃ t, GSs (gcxOf P w K mg base N qual scope f cdv Aw outer s H E pn) body t ∧ t { nx := fun ys _ H' => Q ys H', rt := fun ys v H' => v = .non ∧ Q ys H' } [] (start N vs) H)
    (g1 : go.cls = .type "generator") (g2 : go.data = .fields #[.int s1.gens.size 0, nm, qn]) (g3 : go.slots = #[]) (g4 : (s1.heap.push go).get? s1.heap.objs.size = some go) :
    GMade P w (k + 1) outer H s [] Q E (.ref s1.heap.objs.size) { s1 with gens := s1.gens.push (.fresh (.func body (envOfC qual scope s.heap.objs.size f cdv))), toks := tk, heap := s1.heap.push go } := by
  have z0 : s.heap.objs.size < s1.heap.objs.size := x.toInCall.ns.lt
  have z1 := Nat.le_of_lt z0
  obtain ⟨_, _, es, _⟩ := x.done
  have eos : s1.os = s.os := by rw [es]
  have egen : s1.gens = s.gens := by rw [es]
  have lim : s1.heap.NoLimit := (e0.mod.nolimit.keeps fun b o e => (e0.bs b o e).1).keeps x.toInCall.keep
  have isg : ∀ h : Heap, h.get? s1.heap.objs.size = some go → h.IsGen s1.heap.objs.size s1.gens.size := fun h e => ⟨go, nm, qn, e, g1, g2, g3⟩
  refine ⟨s1.heap.objs.size, s1.gens.size, _, rfl, z1, by show _ < (s1.heap.push _).objs.size; rw [Heap.size_push]; exact Nat.lt_succ_self _, isg _ g4, Array.getElem?_push_size .., eos,
    AllBare.push (by rw [egen]; exact e0.bare) rfl, lim.keeps fun b o e => Heap.get?_push_of_some _ e, fun b o e => Heap.get?_push_of_some _ (x.toInCall.keep b o e), ?_⟩
  intro Aw Sx s2 hr fr leS kp ⟨c, eS⟩ os2 bare2
  have leS : s1.heap.objs.size < Sx := by
    have : (s1.heap.push go).objs.size ≤ Sx := leS
    rwa [Heap.size_push] at this
  obtain ⟨t, ht, hq⟩ := hbody Aw [(s1.heap.objs.size, go)] (hr.deeper _)
  generalize eX : gcxOf P w K mg base N qual scope f cdv Aw outer s H E [(s1.heap.objs.size, go)] = X at ht
  have J0 : Inv (gcxOf P w K mg base N qual scope f cdv Aw outer s H E []) [] (start N vs) H s1 := inv_startG S hr.hd ⟨fr, e0.mod, e0.bs, e0.bsz, e0.funs, e0.frf, e0.hok, e0.bare⟩ hl r x
  have kp1 : ∀ b o, s1.heap.get? b = some o → s2.heap.get? b = some o := fun b o e => kp b o (Heap.get?_push_of_some _ e)
  have J : Inv (gcxOf P w K mg base N qual scope f cdv Aw outer s H E []) [] (start N vs) H s2 := J0.call' (ch := []) (os2.trans eos.symm) (Un.kept kp1) (J0.hok.kept kp1) bare2 fun b z => by simp at z
  have late : ∀ b, s1.heap.objs.size ≤ b → H b = none ∧ b ≠ s.heap.objs.size ∧ b ∉ frs outer ∧ s.heap.objs.size ≤ b ∧ ∀ y c, (cellsFrom (s.heap.objs.size + 1) scope.names []).lookup y = some c → c ≠ b := fun b hb =>
    ⟨J0.hok.fresh hb, by omega, J0.nofs hb, by omega, fun y c e z => by
      obtain ⟨_, _, ho, _⟩ := J0.cell y c e
      have q := Heap.lt_size ho
      rw [z] at q
      exact absurd (Nat.lt_of_lt_of_le q hb) (Nat.lt_irrefl _)⟩
  have l1 := late _ (Nat.le_refl _)
  have l2 := late _ (Nat.le_of_lt leS)
  have G0 : GI X Sx [] [] (start N vs) H s2 := by
    subst eX
    refine ⟨#[], c, .nil, Inv.pinnedG J fun p hp => ?_⟩
    have hp' : p = (s1.heap.objs.size, go) ∨ p = (Sx, lstObj #[] c) := by simpa using hp
    rcases hp' with rfl | rfl
    · exact ⟨kp _ _ g4, l1.1, l1.2.1, l1.2.2.1, fun v q => by rw [g2] at q; cases q⟩
    · exact ⟨eS, l2.1, l2.2.1, l2.2.2.1, fun v q => by cases q⟩
  have away : ∀ p ∈ X.pn, p.1 ≠ Sx := by
    subst eX
    intro p hp
    rw [List.mem_singleton.mp hp]
    exact Nat.ne_of_lt leS
  have apart : Apart X Sx := by subst eX; exact ⟨l2.2.2.2.1, l2.2.1, l2.2.2.2.2⟩
  have its : ∀ {ip : List (Addr × Obj)} {ys : List V} {s' : Shared} {σ' : L2.St} {H' : Hp}, GI X Sx ip ys σ' H' s' → s'.heap.IsGen s1.heap.objs.size s1.gens.size := by
    subst eX
    rintro ip ys s' σ' H' ⟨_, _, _, I⟩
    exact isg _ (I.pin (s1.heap.objs.size, go) (List.mem_append_left _ (List.mem_singleton.mpr rfl))).1
  refine seg_func (seg_imp (R := GR X Sx (fun ys v H' => v = .non ∧ Q ys H') fun e s' => CX P w outer H s E e s' ∧ ∀ p ∈ [(s1.heap.objs.size, go)], s'.heap.get? p.1 = some p.2) (Y := GY X Sx) (fun n s₀ r' s' hR => ?_) (fun n s₀ v s' kap kap' hk hY => ?_) sizeLine ?_)
  · match r', hR with
    | .error e, q => exact .inr ⟨e, rfl, q.1, isg _ (q.2 (s1.heap.objs.size, go) (List.mem_singleton.mpr rfl))⟩
    | .ok (.ret u), q =>
      obtain ⟨ys, v, ip, σ', H', hn, I, rv, ev, hQ⟩ := q
      subst ev
      obtain rfl : u = Value.none := rv
      obtain ⟨a1, _, _, acc, cc, ra, ea⟩ := I.at
      obtain ⟨_, _, _, I⟩ := I
      subst eX
      exact .inl ⟨.inl rfl, H', ys, acc, cc, I.os, I.bare, I.base, I.hok, a1, ea, ra, by omega, hQ⟩
    | .ok .next, q => exact False.elim q
    | .ok .brk, q => exact False.elim q
    | .ok .cont, q => exact False.elim q
  · obtain ⟨ys, xx, ip, σ', H', hn, h2, I, h3⟩ := hY
    obtain ⟨_, _, _, acc, cc, ra, ea⟩ := I.at
    have ig := its I
    obtain ⟨_, _, _, I⟩ := I
    have hz : acc.size = ys.length := by
      have e1 := ra.length
      have e2 : acc.toList.length = acc.size := by simp
      omega
    subst eX
    exact ⟨I.os, I.bare, I.nolimit, ig, ⟨acc, cc, ea, by rw [hz]; exact hn⟩, fun s' z => hk _ _ (h3 s' z)⟩
  · subst eX
    refine ht.run Aw Sx [] _ sizeLine [] s2 _ [] _ _ id id s2 (start N vs) H _ ⟨away, fun p hp => absurd hp List.not_mem_nil, apart, GenW.over_func, rfl, rfl, rfl⟩ (Nat.add_zero _) ⟨fun n ys s₀ s' fl hn hs => ?_, fun n s₀ e s' hx => ?_⟩ G0 hq
    · match fl, hs with
      | .next, ⟨σ', H', I, q⟩ => exact seg_end (.ok (.ret .none)) ⟨ys, .non, [], σ', H', hn, I, rfl, rfl, q⟩
      | .ret u, ⟨v, σ', H', I, rv, ev, q⟩ => exact seg_end (.ok (.ret u)) ⟨ys, v, [], σ', H', hn, I, rv, ev, q⟩
      | .brk, ⟨_, _, _, q⟩ => exact False.elim q
      | .cont, ⟨_, _, _, q⟩ => exact False.elim q
    · refine seg_wrap ?_
      rw [GenW.over_func]
      exact wpAny_mono hx (fun _ s'' q => seg_end (.error e) q) fun _ s'' q => q.elim
/-- a generator def with *args, by its body -/
theorem gsrun_of {pv : Str} (lk : K.lookup f = some ⟨oc, od, .func (PySem.W.fnOf name qual params body scope dV kV doc pm an cdv ct), osl⟩) (hcd : PySem.W.codeIn K cdv qual = true) (S : GScope N (ps ++ [pv]) scope)
    (hb : ∀ us rest : List Value, us.length = ps.length → bindArgs (PySem.W.fnOf name qual params body scope dV kV doc pm an cdv ct) ⟨us ++ rest, []⟩ = (newTuple rest >>= fun t => pure (ps.zip us ++ [(pv, t)])))
    (hbody : ∀ (A : Around) (outer : List Env) (s : Shared) (H : Hp) (vs : List V) (Q : List V → Hp → Prop) (E : XK) (pn : List (Addr × Obj)), Room k (A.deeper (envOfC qual scope s.heap.objs.size f cdv)) → sp vs H Q E →
      ∃ t, GSs (gcxOf P w K mg base N qual scope f cdv A outer s H E pn) body t ∧ t { nx := fun ys _ H' => Q ys H', rt := fun ys v H' => v = .non ∧ Q ys H' } [] (start N vs) H) : GSRun P w K mg base (k + 1) f (spStarG ps.length sp) := by
  rintro A outer s H us vs Q E hr e0 r ⟨ws, rest, rfl, hl, hz, hq⟩
  obtain ⟨u1, u2, rfl, r1, r2⟩ := vals_split r
  have hn : H s.heap.objs.size = Option.none := e0.hok.fresh (Nat.le_refl _)
  have hl1 : u1.length = ps.length := by rw [← r1.length]; exact hl
  have hl2 : u2.length ≤ sizeLine := by rw [← r2.length]; exact hz
  have KX : K.In s.heap := e0.mod.kin.keeps fun b o e => (e0.bs b o e).1
  refine codeAny_call_generator hr.depth (KX _ _ lk) rfl S.co S.gen rfl (PySem.W.codeRec_of KX hcd) ?_
  rw [hb u1 u2 hl1]
  refine wpAny_bind (wpAny_newTuple (wpAny_pure ?_) hl2)
  have get0 : (s.heap.push ({ cls := .type "tuple", data := .seq u2.toArray } : Obj)).get? s.heap.objs.size = some { cls := .type "tuple", data := .seq u2.toArray } := Heap.get?_push_size _ rfl
  have new : ObjOk P w (upd H s.heap.objs.size (.tup rest)) (s.heap.push ({ cls := .type "tuple", data := .seq u2.toArray } : Obj)) s.heap.objs.size (.tup rest) := ⟨hz, u2, r2, ⟨_, get0, rfl, _, rfl⟩⟩
  have e2 := env0_laid e0 new
  have r3 : Vals (ws ++ [V.ref s.heap.objs.size]) (u1 ++ [Value.ref s.heap.objs.size]) := r1.append (.cons rfl .nil)
  have ez : ps.zip u1 ++ [(pv, Value.ref s.heap.objs.size)] = (ps ++ [pv]).zip (u1 ++ [Value.ref s.heap.objs.size]) := by rw [List.zip_append hl1.symm]; rfl
  show wpAny _ _ (newFunctionEnv _ _ _ (ps.zip u1 ++ [(pv, Value.ref s.heap.objs.size)]) _ _ _ _ _) _ _ _
  rw [ez]
  refine wpAny_newFunctionEnv_cells S.kind (fun y hy => ?_) fun env he s1 x => ?_
  · rcases S.par y.1 (List.of_mem_zip hy).1 with q | q
    · exact .inl q
    · exact .inr ⟨q, PySem.W.cellsFrom_some _ _ _ (.inl q)⟩
  · subst he
    have lim : s1.heap.NoLimit := (e2.mod.nolimit.keeps fun b o e => (e2.bs b o e).1).keeps x.toInCall.keep
    exact ⟨lim, _, _, rest, rfl, new, get0, gen_fresh S e2 (by rw [List.length_append, List.length_append, hl]; rfl) r3 x (fun Aw pn hr' => hbody Aw outer _ _ _ Q E pn hr' (hq _ hn)) rfl rfl rfl (Heap.get?_push_size _ rfl)⟩
end
/-- a generator method with *args -/
def GMOk (P : Program) (w : World) (K : PySem.W.Frag) (mg : Str → Option Value) (base : Heap) (k : Nat) (C : Addr) (m : Str) (sp : SpG) : Prop := ∃ f, GSRun P w K mg base k f sp ∧ BMeth K C m f
section
variable {P : Program} {w : World} {K : PySem.W.Frag} {mg : Str → Option Value} {base : Heap} {k : Nat} {C : Addr} {ps : List Str} {sp : SpG} {m qual : Str} {st : Stmt}
theorem DefBS.gen {N : List Str} {pv : Str} (D : DefBS K C m qual st ps pv) (S : GScope N (ps ++ [pv]) (defScope st))
    (hbody : ∀ (f : Addr) (cdv : Value) (A : Around) (outer : List Env) (s : Shared) (H : Hp) (vs : List V) (Q : List V → Hp → Prop) (E : XK) (pn : List (Addr × Obj)), Room k (A.deeper (envOfC qual (defScope st) s.heap.objs.size f cdv)) → sp vs H Q E →
      ∃ t, GSs (gcxOf P w K mg base N qual (defScope st) f cdv A outer s H E pn) (defBody st) t ∧ t { nx := fun ys _ H' => Q ys H', rt := fun ys v H' => v = .non ∧ Q ys H' } [] (start N vs) H) : GMOk P w K mg base (k + 1) C m (spStarG ps.length sp) := by
  obtain ⟨f, fd, F, M, hb⟩ := D
  obtain ⟨oc, od, kV, doc, pm, an, cdv, ct, osl, rfl, lk, hcd⟩ := F.ex
  exact ⟨f, gsrun_of (sp := sp) lk hcd S hb fun A outer s H vs Q E pn hr h => hbody f cdv A outer s H vs Q E pn hr h, M⟩
end
end L2.Px
set_option Elab.async false
set_option linter.all false
set_option maxRecDepth 100000
set_option maxHeartbeats 1000000
namespace L2.Px
open PySem PySem.Spec PyProof.Rows StX TL ClX LamX
/-- == of flat things, or of equal dicts -/
def rEqAD (K : PySem.W.Frag) : R2 := fun x y H Q => rEqA K x y H Q ∨ rEqDA x y H Q
theorem oEqAD {X : Cx} {K : PySem.W.Frag} (hu : X.A.units + 64 < cLine) (hk : X.K = K) : OpR X (compareOp .Eq) (rEqAD K) := hk ▸ (oEq hu).or (op_eq_dictA (by omega))
section
variable {K : PySem.W.Frag} {CT CP CE CK : Addr} {H H' : Hp} {a b x h d l p t : Addr} {v w : V} {x' y' : V} {kvs : List (Key × V)} {ss : List Stp} {f : Nat → Nat} {ls : List (Nat × Nat)} {ob : List Obs} {Q : VK} {E : XK} {n m : Nat} {ms ns : List V} {L : List Nat}
theorem rd_eqADl (h : rEqA K x' y' H Q) : rEqAD K x' y' H Q := .inl h
theorem rd_isi_dK_tuple (e : H a = some (.dK kvs)) (q : Q (.bl false) H) : rIsi K [.ref a, .ty "tuple"] H Q := rd_isi (.ty _) (.base (.dK e)) (kit_ty (by decide +kernel)) q
theorem rd_isi_dK_list (e : H a = some (.dK kvs)) (q : Q (.bl false) H) : rIsi K [.ref a, .ty "list"] H Q := rd_isi (.ty _) (.base (.dK e)) (kit_ty (by decide +kernel)) q
theorem rd_isi_dK_bool (e : H a = some (.dK kvs)) (q : Q (.bl false) H) : rIsi K [.ref a, .ty "bool"] H Q := rd_isi (.ty _) (.base (.dK e)) (kit_ty (by decide +kernel)) q
theorem rd_isi_dK_int (e : H a = some (.dK kvs)) (q : Q (.bl false) H) : rIsi K [.ref a, .ty "int"] H Q := rd_isi (.ty _) (.base (.dK e)) (kit_ty (by decide +kernel)) q
theorem rd_isi_dK_str (e : H a = some (.dK kvs)) (q : Q (.bl false) H) : rIsi K [.ref a, .ty "str"] H Q := rd_isi (.ty _) (.base (.dK e)) (kit_ty (by decide +kernel)) q
variable (K)
variable {K}
theorem knownL_nd (f : Nat → Nat) (ls : List (Nat × Nat)) (n : Nat) : ((knownL f ls n).map (·.1)).Nodup := by
  have e : (knownL f ls n).map (·.1) = (List.range n).filter fun k => (gL ls (f k)).isSome := by
    unfold knownL
    induction (List.range n) with
    | nil => rfl
    | cons k r ih =>
      rw [List.filterMap_cons, List.filter_cons]
      cases e : gL ls (f k) with
      | none => simpa using ih
      | some c => simpa using ih
  rw [e]
  exact List.Pairwise.filter _ List.nodup_range
theorem rd_mkReader (tx : TX K CT CP H t ss) (q : ∀ x h d H', Same H H' → H x = none → H h = none → H d = none → Reader K CT CP CK H' x h d ss id [] [] → Q (.ref x) H') : rMk CK (sp_KeyReader_init K CT CP CK) E [.ref t] H Q := by
  intro x dx nx nd ne
  have S1 : Same H (upd (upd H dx (.own x)) x (.ins CK dx [])) := Same.mut (Same.mut (Same.refl _) nd) nx
  refine ⟨x, dx, t, ss, rfl, upd_same, tx.kp (.same S1), fun H' h d B hn hd hx hdx hne R => ⟨rfl, q x h d H' (fun b o e => B _ _ (ne_of_none e nx) (S1 _ _ e)) nx ?_ ?_ R⟩⟩
  · exact Same.back S1 hn
  · exact Same.back S1 hd
theorem obsV_flat {o : Obs} (h : ∀ p w, o = .word p w → w.length ≤ 1000) : ∀ v ∈ obsV o, (∃ i, v = .int i) ∨ (∃ z : Str, v = .str z ∧ z.length ≤ sizeLine) ∨ v = .non := by
  intro v hv
  have s : ∀ z : Str, z.length ≤ 1000 → z.length ≤ sizeLine := fun z h => by rw [sizeLine_eq]; omega
  cases o with
  | see p c =>
    simp only [obsV, List.mem_cons, List.not_mem_nil, or_false] at hv
    rcases hv with rfl | rfl | rfl
    · exact .inr (.inl ⟨_, rfl, s _ (by decide +kernel)⟩)
    · exact .inl ⟨_, rfl⟩
    · exact .inr (.inl ⟨_, rfl, s _ (by show 1 ≤ 1000; decide)⟩)
  | word p w =>
    simp only [obsV, List.mem_cons, List.not_mem_nil, or_false] at hv
    rcases hv with rfl | rfl | rfl
    · exact .inr (.inl ⟨_, rfl, s _ (by decide +kernel)⟩)
    · exact .inl ⟨_, rfl⟩
    · exact .inr (.inl ⟨_, rfl, s _ (by rw [mkS_len]; exact h _ _ rfl)⟩)
  | alike p o =>
    simp only [obsV, List.mem_cons, List.not_mem_nil, or_false] at hv
    rcases hv with rfl | rfl | rfl
    · exact .inr (.inl ⟨_, rfl, s _ (by decide +kernel)⟩)
    · exact .inl ⟨_, rfl⟩
    · exact .inl ⟨_, rfl⟩
theorem obsV_len {o : Obs} : (obsV o).length = 3 := by cases o <;> rfl
theorem alX_obs (ok : ∀ o ∈ ob, ∀ p w, o = .word p w → w.length ≤ 1000) (few : ob.length ≤ 1000) (h1 : SqL K H a ms) (h2 : SqL K H b ns) (s1 : ObsAt K H ms ob) (s2 : ObsAt K H ns ob) : AlX K H (n + 3) (.ref a) (.ref b) :=
  .inr (.inr (.inr ⟨a, b, ms, ns, rfl, rfl, .inr ⟨h1, h2⟩, by rw [s1.1, s2.1], by rw [s1.1, sizeLine_eq]; omega, fun i x y hx hy => by
    have hi : i < ob.length := by rw [← s1.1]; exact (List.getElem?_eq_some_iff.mp hx).1
    have es := List.getElem?_eq_getElem hi
    obtain ⟨p, e1, q1⟩ := s1.2 i _ es
    obtain ⟨p', e2, q2⟩ := s2.2 i _ es
    rw [hx] at e1; cases e1
    rw [hy] at e2; cases e2
    exact alX_flat (obsV_flat (ok _ (List.mem_of_getElem? es))) (by rw [obsV_len, sizeLine_eq]; decide) q1 q2⟩))
end
end L2.Px
set_option Elab.async false
set_option linter.all false
set_option maxRecDepth 100000
set_option maxHeartbeats 1000000
namespace L2.Px
open PySem PySem.Spec PyProof.Rows StX TL ClX LamX
/-- what is known is true, and what is tied is alike -/
structure Tru (ss : List Stp) (f : Nat → Nat) (ls : List (Nat × Nat)) : Prop where
  kn : ∀ k c, k < (tyL ss).length → gL ls (f k) = some c → lat ss k = c
  cl : ∀ a b, a < (tyL ss).length → b < (tyL ss).length → f a = f b → lat ss a = lat ss b
section
variable {ss : List Stp} {f : Nat → Nat} {ls : List (Nat × Nat)} {a b k p n : Nat} {w : List Nat}
theorem Tru.see (t : Tru ss f ls) (hk : k < (tyL ss).length) : Tru ss f (putL ls (f k) (lat ss k)) := by
  refine ⟨fun j c hj h => ?_, t.cl⟩
  rw [gL_put] at h
  split at h
  · rename_i e; cases h; exact t.cl _ _ hj hk e
  · exact t.kn j c hj h
theorem Tru.word (ok : okFrom 0 ss) : ∀ {w : List Nat} {p : Nat} {ls : List (Nat × Nat)}, Tru ss f ls → p + w.length ≤ sz ss → (∀ i c, w[i]? = some c → c = lat ss (kat ss (p + i))) → Tru ss f (lsW f ss p w ls) ∧ okW f ss p w ls
  | [], _, _, t, _, _ => ⟨t, trivial⟩
  | c :: r, p, ls, t, hp, hw => by
    simp only [List.length_cons] at hp
    have hk := kat_lt ok (show p < sz ss by omega)
    have ec : c = lat ss (kat ss p) := hw 0 c rfl
    have t' : Tru ss f (putL ls (f (kat ss p)) c) := by rw [ec]; exact t.see hk
    obtain ⟨h1, h2⟩ := Tru.word ok (w := r) (p := p + 1) t' (by omega) fun i c' hc' => by
      have := hw (i + 1) c' (by simpa using hc')
      rw [show p + 1 + i = p + (i + 1) by omega]; exact this
    exact ⟨h1, ⟨fun c' h => by rw [ec]; exact (t.kn _ _ hk h).symm, h2⟩⟩
theorem mem_openH : k ∈ openH f ls n ↔ k < n ∧ f k = k ∧ gL ls k = none := by
  unfold openH
  rw [List.mem_filter, List.mem_range, Bool.and_eq_true, decide_eq_true_iff, Option.isNone_iff_eq_none]
theorem knownL_get (f : Nat → Nat) (ls : List (Nat × Nat)) (n k : Nat) : gL (knownL f ls n) k = if k < n then gL ls (f k) else none := by
  induction n with
  | zero => rfl
  | succ n ih =>
    have e : knownL f ls (n + 1) = knownL f ls n ++ ((gL ls (f n)).map fun c => (n, c)).toList := by
      unfold knownL
      rw [List.range_succ, List.filterMap_append]
      cases h : gL ls (f n) <;> simp [h]
    rw [e]
    cases h : gL ls (f n) with
    | none =>
      simp only [Option.map_none, Option.toList_none, List.append_nil]
      rw [ih]
      by_cases z : k < n
      · rw [if_pos z, if_pos (by omega)]
      · rw [if_neg z]
        by_cases y : k = n
        · subst y; rw [if_pos (by omega), h]
        · rw [if_neg (by omega)]
    | some c =>
      simp only [Option.map_some, Option.toList_some]
      rw [gL_snoc, ih]
      by_cases z : k < n
      · rw [if_pos z, if_neg (show ¬ n = k by omega), if_pos (show k < n + 1 by omega)]
        cases gL ls (f k) <;> rfl
      · rw [if_neg z]
        by_cases y : n = k
        · subst y; rw [if_pos rfl, if_pos (by omega), h]; rfl
        · rw [if_neg y, if_neg (by omega)]; rfl
end
/-- what the law of readers holds: G is the heap ahead of the reader -/
structure Hs (K : PySem.W.Frag) (CT CP CK : Addr) (G H : Hp) (r b x h d : Addr) (ss : List Stp) (f : Nat → Nat) (ls : List (Nat × Nat)) (ob : List Obs) : Prop where
  kp : Kp G H
  rowG : RowAt K G r
  row : RowAt K H r
  tx : TX K CT CP G b ss
  nx : G x = none
  nh : G h = none
  nd : G d = none
  rd : Reader K CT CP CK H x h d ss f ls ob
section
variable {K : PySem.W.Frag} {CT CP CK : Addr} {G H H' : Hp} {r b x h d l : Addr} {ss : List Stp} {f f' : Nat → Nat} {ls ls' : List (Nat × Nat)} {ob ob' : List Obs} {Q : VK} {E : XK} {L : List Nat}
theorem Hs.same (s : Hs K CT CP CK G H r b x h d ss f ls ob) (S : Same H H') : Hs K CT CP CK G H' r b x h d ss f ls ob :=
  ⟨s.kp.trans (.same S), s.rowG, s.row.mono S, s.tx, s.nx, s.nh, s.nd, s.rd.same S⟩
variable (K CT CP CK)
end
section
variable {K : PySem.W.Frag} {CT CP CK : Addr} {H : Hp} {x h d : Addr} {ss : List Stp} {f : Nat → Nat} {ls : List (Nat × Nat)} {ob : List Obs} {Q : VK} {E : XK}
theorem rd_rdKnownH (r : Reader K CT CP CK H x h d ss f ls ob) (q : ∀ H' p, Same H H' → H p = none → H' p = some (.dK (kvM (knownL f ls (tyL ss).length))) → Q (.ref p) H') : ∃ a' dx fs, V.ref x = .ref a' ∧ H a' = some (.ins CK dx fs) ∧ sp_KeyReader_known_letters K CT CP CK [.ref a'] H Q E := by
  obtain ⟨i, e⟩ := id r
  exact ⟨x, _, _, rfl, e.ins, x, h, d, ss, f, ls, ob, rfl, r, q⟩
end
end L2.Px
set_option Elab.async false
set_option linter.all false
set_option maxRecDepth 100000
set_option maxHeartbeats 2000000
namespace L2.Px
open PySem PySem.Spec PyProof.Rows L2
/-- some objects that nothing of ours leans on are put out of sight -/
theorem inv_hid {X : Cx} {pins : List (Addr × Obj)} {σ : St} {H : Hp} {s : Shared} {L : List Addr} (I : Inv X pins σ H s)
    (hl : ∀ b ∈ L, H b = none ∧ b ≠ X.env.locals ∧ X.s_0.heap.get? b = none ∧ (∀ x c, X.env.cells.lookup x = some c → c ≠ b) ∧ ∀ p ∈ X.pn ++ pins, p.1 ≠ b) :
    Inv X pins σ H { s with heap := PySem.W.hideAll s.heap L } := by
  have old : ∀ b o, X.s_0.heap.get? b = some o → b ∉ L := fun b o e hb => by
    have := (hl b hb).2.2.1
    rw [e] at this; cases this
  have nl : X.env.locals ∉ L := fun hb => (hl _ hb).2.1 rfl
  have nc : ∀ x c, X.env.cells.lookup x = some c → c ∉ L := fun x c e hb => (hl _ hb).2.2.2.1 x c e rfl
  have cl : ∀ {c : Addr} {v : Option Value}, c ∉ L → s.heap.IsCell c v → (PySem.W.hideAll s.heap L).IsCell c v := fun {c v} n z => by
    obtain ⟨o, h1, h2⟩ := z
    exact ⟨o, PySem.W.hideAll_get L h1 n, h2⟩
  have u := I.base
  refine ⟨I.ok, I.os, I.bare, ⟨fun b o e n h1 h2 => PySem.W.hideAll_get L (u.keep b o e n h1 h2) (old b o e), fun b o e n h1 h2 => ?_, u.free, fun b o e h2 => ?_, u.tups, u.frzs, u.tbls⟩, ?_, fun x c e => ?_, I.free, I.freeC, fun p hp => ?_, fun b o e => ?_, I.len⟩
  · obtain ⟨sl, z⟩ := u.slot b o e n h1 h2
    exact ⟨sl, PySem.W.hideAll_get L z (old b o e)⟩
  · obtain ⟨o', z⟩ := u.there b o e h2
    exact ⟨o', PySem.W.hideAll_get L z (old b o e)⟩
  · obtain ⟨m, ⟨o, es, ep, h1, h2⟩, hv⟩ := I.loc
    refine ⟨m, ⟨o, es, ep, PySem.W.hideAll_get L h1 nl, h2⟩, fun i x v a b c => ?_⟩
    obtain ⟨y, r, lk⟩ := hv i x v a b c
    refine ⟨y, r, ?_⟩
    rcases lk with lk | ⟨k1, c', k2, k3⟩
    · exact .inl lk
    · exact .inr ⟨k1, c', k2, cl (nc _ _ k2) k3⟩
  · obtain ⟨v, z⟩ := I.cell x c e
    exact ⟨v, cl (nc x c e) z⟩
  · obtain ⟨h1, h2⟩ := I.pin p hp
    exact ⟨PySem.W.hideAll_get L h1 fun hb => (hl _ hb).2.2.2.2 p hp rfl, h2⟩
  · refine (I.hok b o e).stay (fun c y hc z => PySem.W.hideAll_get L z fun hb => ?_) (fun _ z => z) (fun _ _ z => z)
    have hn := (hl c hb).1
    rcases hc with hc | hc
    · rw [hc, e] at hn; cases hn
    · rw [hc] at hn; cases hn
/-- what a suite of one statement and a bare raise wishes of the body's exceptions -/
def wRe (K : PySem.W.Frag) (c : Value) (t0 : TS) (W0 : WX) : WX := fun cls d σ H =>
  ∃ b, PySem.W.exmOne K cls c = some b ∧ (b = true → t0 { nx := fun σ' H' => W0 cls d σ' H', rt := fun _ _ => False, bk := fun _ _ => False, ct := fun _ _ => False } σ H) ∧ (b = false → W0 cls d σ H)
/-- try: body, except X: a statement and a bare raise -/
def tRe (K : PySem.W.Frag) (c : Value) (t0 : TS) (W0 : WX) (tb : WX → TS) : TS := fun D σ H => tb (wRe K c t0 W0) D σ H
theorem rd_re {K : PySem.W.Frag} {c : Value} {t0 : TS} {W0 : WX} {tb : WX → TS} {nx bk ct : St → Hp → Prop} {rt : VK} {σ : St} {H : Hp} (h : tb (wRe K c t0 W0) ⟨nx, rt, bk, ct⟩ σ H) : tRe K c t0 W0 tb ⟨nx, rt, bk, ct⟩ σ H := h
section
variable {X : Cx} {x : Str} {c : Value} {body : List Stmt} {b0 : Stmt} {np hp rp tp : Pos} {tb : WX → TS} {t0 : TS} {W0 : WX}
/-- an exception with its record of frames stands in the state s6 of ours (none of ours leans on it): thrown again, it is in our air -/
theorem throw_again {pins : List (Addr × Obj)} {σ : St} {H : Hp} {s6 : Shared} {a T : Addr} {oe oT : Obj} {vs ts : Array Value} {fl : Value} {cls : Value} {d : Option Addr} {A' : Around} {Q : Flow → Shared → Prop} {E1 : Value → Shared → Prop}
    (tk : Takes X W0) (I : Inv X pins σ H s6) (hf : X.env.frame = some X.env.locals) (hm : A'.handled = some (.ref a)) (ha : s6.heap.get? a = some oe) (hz : Zc cls d oe) (hd : oe.data = .fields vs) (h1 : vs[1]? = some (.ref T)) (ne : T ≠ a) (hT : s6.heap.get? T = some oT) (hdT : oT.data = .fields ts) (h3 : ts[3]? = some fl)
    (hl : ∀ b ∈ [a, T], H b = none ∧ b ≠ X.env.locals ∧ X.s_0.heap.get? b = none ∧ (∀ x c, X.env.cells.lookup x = some c → c ≠ b) ∧ ∀ p ∈ X.pn ++ pins, p.1 ≠ b) (w : W0 cls d σ H) (hE : ∀ u s', X.xe u s' → E1 u s') :
    wpAny (model X.prog X.w) A' (exec (.Raise none none rp) X.env) Q E1 s6 := by
  refine PySem.wpAny_Raise_bare ?_
  unfold PySem.raiseBare raiseStmt
  dsimp only
  refine wpAny_bind (wpAny_handled ?_)
  rw [hm]
  dsimp only
  refine wpAny_bind (wpAny_rule (wpAny_bind (wpAny_field ha hd h1 ?_)))
  have nT : ¬ ((Value.ref T == Value.none) = true) := by simp
  have go : wpAny (model X.prog X.w) A' (setFlight (.ref a) X.env.frame) (fun _ s8 => wpAny (model X.prog X.w) A' (throw (.ref a) : Sem Flow) Q E1 s8) E1 s6 := by
    rw [hf]
    have hid : ∀ (b : Addr) (L : List Addr), b ∈ L → (PySem.W.hideAll s6.heap L).get? b = none := fun b L h => PySem.W.hideAll_none L h
    have back : ∀ (L : List Addr) (b : Addr) (o : Obj), (PySem.W.hideAll s6.heap L).get? b = some o → s6.heap.get? b = some o := fun L b o h => PySem.W.of_hideAll L h
    refine HandSPX.setFlight_anyZ (base := PySem.W.hideAll s6.heap (a :: T :: frs X.stack)) (l := X.stack) (Z := Zc cls d) (fl := fl) (fr := some X.env.locals) (fun b o h => back _ b o h) (funFrames_none I.stack fun b hb => hid b _ (List.mem_cons_of_mem _ (List.mem_cons_of_mem _ hb)))
      ⟨oe, vs, T, oT, ts, ha, hz, hd, h1, hid T _ (List.mem_cons_of_mem _ List.mem_cons_self), ne, hT, hdT, h3⟩ fun h' k1 k2 k3 k4 => wpAny_throw (hE _ _ (tk _ _ ?_))
    refine ⟨a, PySem.W.hideAll s6.heap (a :: T :: frs X.stack), { s6 with heap := PySem.W.hideAll s6.heap [a, T] }, pins, σ, H, cls, d, rfl, inv_hid I hl, fun b o h hb => ?_, fun b o h hd => k4 b o (back _ b o h) hd, .inr (.inr ⟨k1, hid a _ List.mem_cons_self, k2, k3⟩), (hl a List.mem_cons_self).1, rfl, I.bare, w⟩
    have nb : b ∉ [a, T] := fun z => by
      have q : (PySem.W.hideAll s6.heap [a, T]).get? b = some o := h
      rw [hid b _ z] at q
      cases q
    refine PySem.W.hideAll_get _ (back _ b o h) fun z => ?_
    rcases List.mem_cons.mp z with z | z
    · exact nb (z ▸ List.mem_cons_self)
    · rcases List.mem_cons.mp z with z | z
      · exact nb (z ▸ List.mem_cons_of_mem _ List.mem_cons_self)
      · exact hb z
  rw [if_neg nT]
  first
    | exact wpAny_bind go
    | exact wpAny_bind (wpAny_pure (wpAny_bind go))
/-- the exception's two objects are none of ours -/
theorem not_ours {pins : List (Addr × Obj)} {σ σ6 : St} {H H6 : Hp} {sI s6 : Shared} {B : Heap} {b : Addr} {ob : Obj} {vs : Array Value} (J : Inv X pins σ H sI) (I6 : Inv X pins σ6 H6 s6) (hex : X.ex = []) (hs : X.stack = X.env :: X.outer) (hf : X.env.frame = some X.env.locals)
    (nb : ∀ b o, sI.heap.get? b = some o → b ∉ frs X.stack → B.get? b = some o) (hB : B.get? b = none) (hfr : b ∉ frs (X.env :: X.outer)) (hb6 : s6.heap.get? b = some ob) (hd : ob.data = .fields vs) (h6 : H6 b = none) :
    H6 b = none ∧ b ≠ X.env.locals ∧ X.s_0.heap.get? b = none ∧ (∀ x c, X.env.cells.lookup x = some c → c ≠ b) ∧ ∀ p ∈ X.pn ++ pins, p.1 ≠ b := by
  have gone : ∀ o, sI.heap.get? b ≠ some o := fun o z => by
    have := nb b o z (by rw [hs]; exact hfr)
    rw [hB] at this
    cases this
  refine ⟨h6, fun z => hfr (List.mem_filterMap.mpr ⟨_, List.mem_cons_self, by rw [hf, z]⟩), ?_, fun x c e z => ?_, fun p hp z => ?_⟩
  · cases q : X.s_0.heap.get? b with
    | none => rfl
    | some o =>
      obtain ⟨o', z⟩ := J.base.there b o q (by rw [hex]; exact List.not_mem_nil)
      exact absurd z (gone o')
  · obtain ⟨v, o, h1, h2⟩ := I6.cell x c e
    rw [z, hb6] at h1
    cases h1
    rw [hd] at h2
    cases h2
  · have q := (J.pin p hp).1
    rw [z] at q
    exact gone _ q
theorem ps_try_re (hs : X.stack = X.env :: X.outer) (hf : X.env.frame = some X.env.locals) (hex : X.ex = []) (hc : Names X x c) (tk : Takes X W0) (hpa : ∀ hd : Option Value, PassesOwnAt (model X.prog X.w) (X.A.mark hd) X.A X.env X.xe)
    (hb : ∀ (W : WX) (pn : List (Addr × Obj)) (xe : Value → Shared → Prop), Takes (X.tr pn xe) W → PassesOwn (model X.prog X.w) X.A X.env xe → PSs (X.tr pn xe) body (tb W)) (h0 : ∀ a pn, PS (X.suite a pn) b0 t0) :
    PS X (.Try body [.ExceptHandler (some (.Name x np)) none [b0, .Raise none none rp] hp] [] [] tp) (tRe X.K c t0 W0 tb) := by
  refine ⟨fun pins s σ H D I h => ?_⟩
  have ok := I.ok
  have fr : X.A.frames = some (X.env :: X.outer) := ok.frames.trans (by rw [hs])
  refine wpAny_Try_except ?_
  have run := (hb (wRe X.K c t0 W0) (X.pn ++ pins) (fun e s1 => wpAny (model X.prog X.w) X.A (noteFrame e X.env) (fun _ s2 => wpAny (model X.prog X.w) X.A (setFlight e none) (fun _ s3 =>
    wpAny (model X.prog X.w) X.A (handleBy e X.env [.ExceptHandler (some (.Name x np)) none [b0, .Raise none none rp] hp]) (SP X pins D) X.xe s3) X.xe s2) X.xe s1) ?tk PassesOwn.looking).run [] s σ H D (I.toTry _) h
  case tk =>
    intro u s1 xx
    obtain ⟨a, B, sI, ps, σ1, H1, cls, d, rfl, J0, nb, up, sky, na, os, ag, b, hb1, hyes, hno⟩ := xx
    have J : Inv X pins σ1 H1 sI := J0.ofTry ok
    refine L2.Sky.land Zc.steady fr hf (by rw [← hs]; exact sky) fun h3 fl3 up3 => ?_
    have J3 := J.landed (s' := { s1 with heap := h3 }) nb fl3.1 (up.trans up3) os ag
    obtain ⟨oe, vs, he, hz, hd⟩ := fl3.there
    have offF : ∀ {h : Heap} {b : Addr} {o : Obj} {ws : Array Value}, h.FunFrames B (X.env :: X.outer) → h.get? b = some o → o.data = .fields ws → b ∉ frs (X.env :: X.outer) := fun ff e dd hm => by
      obtain ⟨_, _, e2, q⟩ := ff.mem hm
      rw [e] at e2
      cases e2
      exact q _ dd
    have off : ∀ {b : Addr}, b ∉ frs (X.env :: X.outer) → b ≠ X.env.locals ∧ b ∉ X.fs := fun {b} hb => ⟨fun z => hb (List.mem_filterMap.mpr ⟨_, List.mem_cons_self, by rw [hf, z]⟩), fun z => by
      obtain ⟨e, h1, h2⟩ := List.mem_filterMap.mp z
      exact hb (List.mem_filterMap.mpr ⟨e, List.mem_cons_of_mem _ h1, h2⟩)⟩
    have fa := offF fl3.2.2.1 he hd
    have S3 := J3.suite he hd na (off fa).1 (off fa).2
    refine wpAny_handleBy_cons (codeAny_handlers_test ?_) nofun
    have name : ∀ {Q : Value → Shared → Prop} {E : Value → Shared → Prop}, Q c { s1 with heap := h3 } → wpAny (model X.prog X.w) (X.A.mark (some (.ref a))) (eval (.Name x np) X.env) Q E { s1 with heap := h3 } := fun q => by
      obtain ⟨g1, g2, g3 | ⟨g3, g4, g5⟩⟩ := hc
      · exact ld_glob (X := X.suite a ((a, oe) :: (X.pn ++ pins))) S3 g1 g3 q g2
      · exact ld_blt (X := X.suite a ((a, oe) :: (X.pn ++ pins))) S3 g1 g3 g4 q g5 g2
    have ty : PySem.W.Looks (model X.prog X.w) h3 (typeOf (.ref a)) cls := fun _ _ _ _ k q => wpAny_typeOf_ref (k _ _ he) (by rw [hz.1]; exact q)
    refine name ((PySem.W.exm_one (M := model X.prog X.w) J3.kIn ty hb1).here ?_)
    cases b with
    | false =>
      show wpAny (model X.prog X.w) X.A (handleBy (.ref a) X.env []) _ _ _
      refine wpAny_handleBy_nil ?_
      obtain ⟨_, _, _, oe5, vs5, T5, _, _, he5, _, hd5, h15, _⟩ := id fl3
      unfold PySem.passOn
      refine wpAny_bind (wpAny_field he5 hd5 h15 ?_)
      have nT : ¬ ((Value.ref T5 == Value.none) = true) := by simp
      rw [if_neg nT]
      have go : wpAny (model X.prog X.w) X.A (setFlight (.ref a) X.env.frame) (fun _ s8 => wpAny (model X.prog X.w) X.A (throw (.ref a) : Sem Flow) (SP X pins D) X.xe s8) X.xe { s1 with heap := h3 } := by
        rw [hf]
        exact HandSPX.setFlight_upZ fl3 fun h4 hh4 up4 => wpAny_throw (tk _ _ ⟨a, B, sI, pins, σ1, H1, cls, d, rfl, J, nb, (up.trans up3).trans up4, .inr (.inr (by rw [hs]; exact hh4)), na, os, ag, hno rfl⟩)
      first
        | exact wpAny_bind go
        | exact wpAny_bind (wpAny_pure (wpAny_bind go))
    | true =>
      refine codeAny_handlers_suite (HandSPX.lands_againZ fl3 fun h4 fl4 up4 => ?_)
      have J4 := J.landed (s' := { s1 with heap := h4 }) nb fl4.1 ((up.trans up3).trans up4) os ag
      obtain ⟨_, hBa, ff4, oe4, vs4, T, oT, ts, he4, hz4, hd4, h14, hBT, ne, hT, hdT, h34⟩ := id fl4
      have S4 := J4.suite he4 hd4 na (off fa).1 (off fa).2
      have fT := offF ff4 hT hdT
      have nT : H1 T = none := (J.inGround nb).gone hBT
      have S4T : Inv (X.suite a ((a, oe4) :: (X.pn ++ pins))) [(T, oT)] σ1 H1 { s1 with heap := h4 } := S4.pins_of fun p hp => by
        rw [List.mem_singleton.mp hp]
        exact ⟨hT, nT, (off fT).1, (off fT).2, fun v z => by have z : oT.data = .cell v := z; rw [hdT] at z; cases z⟩
      refine wpAny_execs_cons (wpAny_mono ((h0 a ((a, oe4) :: (X.pn ++ pins))).run [(T, oT)] _ _ H1 _ S4T (hyes rfl)) (fun f s6 q => ?_) fun _ _ z => False.elim z)
      cases f with
      | brk => obtain ⟨_, _, _, z⟩ := q; exact z.elim
      | cont => obtain ⟨_, _, _, z⟩ := q; exact z.elim
      | ret u => obtain ⟨_, _, _, _, _, z⟩ := q; exact z.elim
      | next =>
        obtain ⟨σ6, H6, S6, w6⟩ := q
        have I6 := S6.unsuite ok
        have pa := S6.pin (a, oe4) (List.mem_append_left _ List.mem_cons_self)
        have pT := S6.pin (T, oT) (List.mem_append_right _ List.mem_cons_self)
        have oa := not_ours J I6 hex hs hf nb hBa fa pa.1 hd4 pa.2.1
        have oT' := not_ours J I6 hex hs hf nb hBT fT pT.1 hdT pT.2.1
        refine wpAny_execs_cons (throw_again (A' := X.A.mark (some (.ref a))) tk I6 hf rfl pa.1 hz4 hd4 h14 ne pT.1 hdT h34 (fun b hb => ?_) w6 fun u s8 z => hpa (some (.ref a)) u s8 z)
        rcases List.mem_cons.mp hb with rfl | hb
        · exact oa
        · rw [List.mem_singleton.mp hb]; exact oT'
  refine wpAny_mono run (fun f s1 q => ?_) fun _ _ z => z
  cases f with
  | next =>
    obtain ⟨σ1, H1, J, z⟩ := q
    exact wpAny_execs_nil ⟨σ1, H1, J.ofTry ok, z⟩
  | ret u =>
    obtain ⟨v, σ1, H1, J, r, z⟩ := q
    exact ⟨v, σ1, H1, J.ofTry ok, r, z⟩
  | brk =>
    obtain ⟨σ1, H1, J, z⟩ := q
    exact ⟨σ1, H1, J.ofTry ok, z⟩
  | cont =>
    obtain ⟨σ1, H1, J, z⟩ := q
    exact ⟨σ1, H1, J.ofTry ok, z⟩
end
end L2.Px
set_option Elab.async false
set_option linter.all false
set_option maxRecDepth 100000
set_option maxHeartbeats 1000000
namespace L2.Px
open PySem PySem.Spec PyProof.Rows StX TL
theorem kvM_mem {ls : List (Nat × Nat)} {k : Key} {v : V} (h : (k, v) ∈ kvM ls) : ∃ c ∈ ls, k = Sum.inl ((c.1 : Nat) : Int) ∧ v = .str ⟨#[c.2]⟩ := by
  obtain ⟨c, hc, e⟩ := List.mem_map.mp h
  cases e
  exact ⟨c, hc, rfl, rfl⟩
theorem mem_knownL {f : Nat → Nat} {ls : List (Nat × Nat)} {n : Nat} {c : Nat × Nat} (h : c ∈ knownL f ls n) : c.1 < n ∧ gL ls (f c.1) = some c.2 := by
  obtain ⟨k, hk, e⟩ := List.mem_filterMap.mp h
  obtain ⟨x, hx, rfl⟩ := Option.map_eq_some_iff.mp e
  exact ⟨List.mem_range.mp hk, hx⟩
theorem knownL_asc (f : Nat → Nat) (ls : List (Nat × Nat)) (n : Nat) : ((knownL f ls n).map (·.1)).Pairwise (· < ·) := by
  have e : (knownL f ls n).map (·.1) = (List.range n).filter fun k => (gL ls (f k)).isSome := by
    unfold knownL
    induction (List.range n) with
    | nil => rfl
    | cons k r ih =>
      rw [List.filterMap_cons, List.filter_cons]
      cases e : gL ls (f k) with
      | none => simpa using ih
      | some c => simpa using ih
  rw [e]
  exact List.Pairwise.filter _ List.pairwise_lt_range
section
variable {K : PySem.W.Frag} {CT CP CK : Addr} {H : Hp} {Q : VK} {d x h : Addr} {ss : List Stp} {f : Nat → Nat} {ls : List (Nat × Nat)} {ob : List Obs}
/-- list(d) and sorted(d) of the known letters -/
theorem rd_listKn {n : Nat} (e : H d = some (.dK (kvM (knownL f ls n)))) (q : ∀ p H', Same H H' → H' p = some (.lst (natV ((knownL f ls n).map (·.1)))) → Q (.ref p) H') : rListD [.ref d] H Q := by
  refine ⟨d, _, rfl, e, fun p hp => q p _ (Same.new (Same.refl _) hp) ?_⟩
  rw [upd_same]
  unfold kvM natV
  rw [List.map_map, List.map_map]; rfl
end
theorem knownL_N (f : Nat → Nat) (ls : List (Nat × Nat)) (n : Nat) : (knownL f ls n).length = knownN f ls n := by
  unfold knownL knownN
  induction (List.range n) with
  | nil => rfl
  | cons k r ih =>
    rw [List.filterMap_cons, List.filter_cons]
    cases e : gL ls (f k) with
    | none => simpa using ih
    | some c => simpa using ih
section
variable {K : PySem.W.Frag} {H : Hp} {Q : VK} {d : Addr} {ls : List (Nat × Nat)}
theorem rd_lenKn (h : H d = some (.dK (kvM ls))) (q : Q (.int (ls.length : Nat)) H) : rLenDA [.ref d] H Q := ⟨d, _, rfl, h, by unfold kvM; rw [List.length_map]; exact q⟩
end
end L2.Px
set_option Elab.async false
set_option linter.all false
set_option maxRecDepth 100000
set_option maxHeartbeats 1000000
namespace L2.Px
open PySem PySem.Spec PyProof.Rows StX TL
section
variable {f : Nat → Nat} {ls : List (Nat × Nat)} {ss : List Stp} {n k c : Nat} {rest : List Nat}
theorem Tru.all (t : Tru ss f ls) (hf : ∀ k, k < (tyL ss).length → f k ≤ k ∧ f (f k) = f k) (e : openH f ls (tyL ss).length = []) (hk : k < (tyL ss).length) : gL ls (f k) = some (lat ss k) := by
  obtain ⟨f1, f2⟩ := hf k hk
  cases h : gL ls (f k) with
  | none =>
    have : f k ∈ openH f ls (tyL ss).length := mem_openH.mpr ⟨by omega, f2, h⟩
    rw [e] at this; cases this
  | some c => rw [t.kn k c hk h]
end
end L2.Px
set_option Elab.async false
set_option linter.all false
set_option maxRecDepth 100000
set_option maxHeartbeats 1000000
namespace L2.Px
open PySem PySem.Spec PyProof.Rows L2 StX TL ClX
section
variable {X : Cx} {k : Nat} {C : Addr} {m : Str} {sp : Sp} {W : WX} {e o : Expr} {es : List Expr} {ta : TE} {t : TA} {pos apos : Pos}
/-- o.m(e, ..); what an error wishes may look at the names -/
def tMW (C : Addr) (m : Str) (sp : Sp) (W : WX) (ta : TE) (t : TA) : TE := fun σ H Q => ta σ H fun x H1 => ∃ a, x = .ref a ∧ InsM H1 a C m ∧ t σ H1 fun vs H2 => sp (x :: vs) H2 Q (fun cls d H' => W cls d σ H')
theorem pe_mW {pl : Sem Bool} (he : PE X o ta) (c : Cls X.K C) (G : MOk X.prog X.w X.K X.mg X.base (L2.CX X.prog X.w) k C m sp) (hr : Room k X.A) (tk : L2.Takes X W) (ha : PA X (e :: es) t)
    (hst : starEach (e :: es) X.env = (false, eval e X.env) :: starEach es X.env := by rfl) (hpl : (backTo pos (starEach es X.env)).any (·.1) = false := by rfl)
    (ht : eval (.Call (.Attribute o m apos) (e :: es) [] pos) X.env = (do
      let ov ← eval o X.env
      standAt apos.atName
      let (f, first) ← holding [ov] (getMethod ov m pl)
      callWith pos f first (backTo pos (starEach (e :: es) X.env)) (backToKw pos (keywordEach [] X.env))) := by rfl) :
    PE X (.Call (.Attribute o m apos) (e :: es) [] pos) (tMW C m sp W ta t) := by
  obtain ⟨f, F, hm⟩ := G
  refine ⟨fun pins s σ H Q I h => PySem.W.methodCall_KW (pl := pl) (thn (he.run pins s σ H _ I h) fun u s1 ⟨x, H1, I1, rx, a, ex, ⟨dx, fs, ea, l⟩, q⟩ => ?_) ht⟩
  subst ex
  obtain rfl : u = Value.ref a := rx
  refine getmeth_ok I1 ea c hm l (PySem.W.callWith_K (first := [.ref a]) (h₀ := X.base) I.ok.mod.kin hm.kp (thn (ha.run pos pins s1 σ H1 _ I1 q) fun us s2 ⟨vs, H2, I2, r, q2⟩ => ⟨I2.kIn, wpAny_call ?_⟩) hst hpl)
  refine codeAny_mono (F X.A X.stack s2 H2 (.ref a :: us) (.ref a :: vs) Q (fun cls d H' => W cls d σ H') hr I2.env0 (.cons rfl r) q2) fun r s' hq => ?_
  cases r with
  | error e => exact L2.passAt tk σ _ _ _ _ _ I2 hq
  | ok fl =>
    cases fl with
    | ret u => exact I2.after hq
    | next => exact False.elim hq
    | brk => exact False.elim hq
    | cont => exact False.elim hq
theorem ps_fldK {K : PySem.W.Frag} {f : Str} {value : Expr} {tv : TE} {pos' : Pos} (hk : X.K = K) (ha : PE X o ta) (hv : PE X value tv) (hs : swapsWith value (some (.Attribute o f pos')) pos.line X.env = pure false) : PS X (.Assign [.Attribute o f pos'] value pos) (sFld K ta tv f) := hk ▸ ps_fld ha hv hs
variable {σ : St} {H : Hp} {Q : VK}
theorem rd_mW (h : ta σ H fun x H1 => ∃ a, x = .ref a ∧ InsM H1 a C m ∧ t σ H1 fun vs H2 => sp (x :: vs) H2 Q (fun cls d H' => W cls d σ H')) : tMW C m sp W ta t σ H Q := h
end
section
variable (K : PySem.W.Frag) (CT CP CK CC : Addr)
def sp_KeyReader_accept_letterR : Sp := fun vs H Q E => ∃ x h d ss f ls ob, ∃ k c : Nat, vs = [.ref x, .int k, .str ⟨#[c]⟩] ∧ Reader K CT CP CK H x h d ss f ls ob ∧ k < (tyL ss).length ∧ 97 ≤ c ∧ c ≤ 122 ∧
  ((∀ c', gL ls (f k) = some c' → c' = c) → ∀ H', But d H H' → Reader K CT CP CK H' x h d ss f (putL ls (f k) c) ob → Q .non H') ∧ (∀ c', gL ls (f k) = some c' → c' ≠ c → E (.ref CC) none H)
def sp_KeyReader_seeR : Sp := fun vs H Q E => ∃ x h d ss f ls ob, ∃ p c : Nat, vs = [.ref x, .int p, .str ⟨#[c]⟩] ∧ Reader K CT CP CK H x h d ss f ls ob ∧ p < sz ss ∧ 97 ≤ c ∧ c ≤ 122 ∧ ob.length < 10000 ∧
  ((∀ c', gL ls (f (kat ss p)) = some c' → c' = c) → ∀ H', Bt [x, h, d] H H' → Reader K CT CP CK H' x h d ss f (putL ls (f (kat ss p)) c) (ob ++ [.see p c]) → Q (.int (knownN f (putL ls (f (kat ss p)) c) (tyL ss).length : Nat)) H') ∧
  (∀ c', gL ls (f (kat ss p)) = some c' → c' ≠ c → ∀ H', Same H H' → E (.ref CC) none H')
def sp_KeyReader_see_wordR : Sp := fun vs H Q E => ∃ x h d ss f ls ob, ∃ (p : Nat) (w : List Nat), vs = [.ref x, .int p, .str (mkS w)] ∧ Reader K CT CP CK H x h d ss f ls ob ∧ p + w.length ≤ sz ss ∧ 1 ≤ w.length ∧ w.length ≤ 20 ∧ (∀ c ∈ w, 97 ≤ c ∧ c ≤ 122) ∧ ob.length < 10000 ∧
  (okW f ss p w ls → ∀ H', Bt [x, h, d] H H' → Reader K CT CP CK H' x h d ss f (lsW f ss p w ls) (ob ++ [.word p w]) → Q (.int (knownN f (lsW f ss p w ls) (tyL ss).length : Nat)) H') ∧
  (¬ okW f ss p w ls → ∀ H' kd, Bt [x, h, d] H H' → H kd = none → kd ≠ x → kd ≠ h → Reader K CT CP CK H' x h kd ss f ls ob → E (.ref CC) none H')
def sp_KeyReader_hear_alikeR : Sp := fun vs H Q E => ∃ x h d ss f ls ob, ∃ p q : Nat, vs = [.ref x, .int p, .int q] ∧ Reader K CT CP CK H x h d ss f ls ob ∧ p < sz ss ∧ q < sz ss ∧ ob.length < 10000 ∧
  ((∀ c c', gL ls (f (kat ss p)) = some c → gL ls (f (kat ss q)) = some c' → c = c') → ∀ H', Bt [x, h, d] H H' → Reader K CT CP CK H' x h d ss (tieF f (kat ss p) (kat ss q)) (hearL f ls (kat ss p) (kat ss q)) (ob ++ [.alike p q]) →
    Q (.int (26 ^ (openH (tieF f (kat ss p) (kat ss q)) (hearL f ls (kat ss p) (kat ss q)) (tyL ss).length).length : Nat)) H') ∧
  (∀ c c', gL ls (f (kat ss p)) = some c → gL ls (f (kat ss q)) = some c' → c ≠ c' → ∀ H', Same H H' → E (.ref CC) none H')
end
section
variable {K : PySem.W.Frag} {CT CP CK : Addr} {H H' : Hp} {x h d kd : Addr} {ss : List Stp} {f : Nat → Nat} {ls ls' : List (Nat × Nat)} {ob : List Obs} {i : RdI}
theorem rdF_putL {t h d s v : V} : putF "letters" v (rdF t h d s) = rdF t h v s := by unfold rdF; rw [putF_miss (by decide +kernel), putF_miss (by decide +kernel), putF_hit]
/-- the letters are put back -/
theorem RdAt.back (r : RdAt K CT CP CK H x h d ss f ls' ob i) (n1 : CT ≠ CK) (n2 : CP ≠ CK) (b : But x H H') (e : H' x = some (.ins CK i.dx (rdF (.ref i.t) (.ref h) (.ref kd) (.ref i.s)))) (ek : H kd = some (.dK (kvM ls))) (ok : LsOk (tyL ss).length ls) (hkd : kd ≠ x) :
    RdAt K CT CP CK H' x h kd ss f ls ob i := by
  have km : Km CK [] H H' := Km.but b r.ins
  exact ⟨e, r.tx.km n1 n2 km, km.li nr_natV r.hl, b _ _ hkd ek, km.tup r.sn, ⟨r.obs.1, fun j o q => let ⟨b, e, g⟩ := r.obs.2 j o q; ⟨b, e, km.tup g⟩⟩, r.rt, r.len, ok⟩
end
/-- a word contradicts at its first wrong letter -/
theorem okW_not {f : Nat → Nat} {ss : List Stp} : ∀ {p : Nat} {w : List Nat} {ls : List (Nat × Nat)} (j : Nat) {c c' : Nat}, w[j]? = some c → gL (lsW f ss p (w.take j) ls) (f (kat ss (p + j))) = some c' → c' ≠ c → ¬ okW f ss p w ls
  | p, x :: w, ls, 0, c, c', h, g, n => fun ok => by
    cases h
    exact n (ok.1 c' g)
  | p, x :: w, ls, j + 1, c, c', h, g, n => fun ok => by
    have g : gL (lsW f ss (p + 1) (w.take j) (putL ls (f (kat ss p)) x)) (f (kat ss (p + 1 + j))) = some c' := by rw [show p + 1 + j = p + (j + 1) by omega]; exact g
    exact okW_not j h g n ok.2
theorem okW_snocI {f : Nat → Nat} {ss : List Stp} : ∀ {p : Nat} {w : List Nat} {ls : List (Nat × Nat)} {c : Nat}, okW f ss p w ls → (∀ c', gL (lsW f ss p w ls) (f (kat ss (p + w.length))) = some c' → c' = c) → okW f ss p (w ++ [c]) ls
  | p, [], ls, c, _, h => ⟨h, trivial⟩
  | p, x :: w, ls, c, ok, h => ⟨ok.1, okW_snocI ok.2 fun c' g => h c' (by rw [show p + (x :: w).length = p + 1 + w.length by rw [List.length_cons]; omega]; exact g)⟩
end L2.Px
set_option Elab.async false
set_option linter.all false
set_option maxRecDepth 100000
set_option maxHeartbeats 1000000
namespace L2.Px
open PySem PySem.Spec PyProof.Rows StX TL ClX
/-- a function from keys to the least keys of their classes -/
def Lst (f : Nat → Nat) (n : Nat) : Prop := ∀ k, k < n → f k ≤ k ∧ f (f k) = f k
section
variable {f : Nat → Nat} {n a b : Nat}
theorem memF_pair (f : Nat → Nat) (n r : Nat) : (memF f n r).Pairwise (· < ·) := List.Pairwise.filter _ List.pairwise_lt_range
theorem rootsF_pair (f : Nat → Nat) (n : Nat) : (rootsF f n).Pairwise (· < ·) := List.Pairwise.filter _ List.pairwise_lt_range
theorem Lst.tie (h : Lst f n) (ha : a < n) (hb : b < n) : Lst (tieF f a b) n := fun k hk => by
  have h1 := h k hk
  have a1 := h a ha
  have b1 := h b hb
  have k1 := @tieF_at f a b k
  have m1 : tieF f a b (min (f a) (f b)) = min (f a) (f b) := by
    unfold tieF
    rcases Nat.le_total (f a) (f b) with z | z
    · rw [Nat.min_eq_left z, Nat.max_eq_right z, a1.2]
      split <;> rfl
    · rw [Nat.min_eq_right z, Nat.max_eq_left z, b1.2]
      split <;> rfl
  rcases k1 with ⟨e, t⟩ | ⟨e, t⟩
  · rw [t]
    exact ⟨by omega, m1⟩
  · rw [t]
    refine ⟨h1.1, ?_⟩
    unfold tieF
    rw [h1.2, if_neg e]
theorem mem_tie (h : Lst f n) {r k : Nat} (hr : r ≠ min (f a) (f b)) (hM : r ≠ max (f a) (f b)) : tieF f a b k = r ↔ f k = r := by
  rcases @tieF_at f a b k with ⟨e, t⟩ | ⟨e, t⟩
  · rw [t]; constructor <;> intro z <;> omega
  · rw [t]
theorem memF_tie (h : Lst f n) {r : Nat} (hr : r ≠ min (f a) (f b)) (hM : r ≠ max (f a) (f b)) : memF (tieF f a b) n r = memF f n r := List.filter_congr fun k _ => decide_eq_decide.mpr (mem_tie h hr hM)
/-- the roots but for the greater of the two -/
theorem rootsF_tie (h : Lst f n) (ha : a < n) (hb : b < n) : rootsF (tieF f a b) n = (rootsF f n).filter fun r => decide (r ≠ max (f a) (f b) ∨ f a = f b) := by
  unfold rootsF
  rw [List.filter_filter]
  refine List.filter_congr fun k hk => ?_
  have hk := List.mem_range.mp hk
  have a1 := h a ha
  have b1 := h b hb
  have k1 := h k hk
  rw [← Bool.decide_and]
  refine decide_eq_decide.mpr ?_
  rcases @tieF_at f a b k with ⟨e, t⟩ | ⟨e, t⟩
  · rw [t]
    constructor
    · intro z
      have : f k = k := by
        rw [← z]
        rcases Nat.le_total (f a) (f b) with y | y
        · rw [Nat.min_eq_left y]; exact a1.2
        · rw [Nat.min_eq_right y]; exact b1.2
      omega
    · intro z; omega
  · rw [t]
    constructor
    · intro z; omega
    · intro z; exact z.2
theorem filt_one {l : List Nat} (hn : l.Nodup) {m : Nat} (h : m ∈ l) : (l.filter (fun r => decide (r ≠ m)) ++ [m]).Perm l := by
  induction l with
  | nil => cases h
  | cons x l ih =>
    have hx := (List.nodup_cons.mp hn)
    by_cases e : x = m
    · subst e
      have e : l.filter (fun r => decide (r ≠ x)) = l := List.filter_eq_self.mpr fun y hy => decide_eq_true fun z => by subst z; exact hx.1 hy
      rw [List.filter_cons, if_neg (by simp), e]
      exact List.perm_append_comm (l₁ := l) (l₂ := [x])
    · rw [List.filter_cons, if_pos (decide_eq_true e)]
      have hm : m ∈ l := (List.mem_cons.mp h).resolve_left fun z => e z.symm
      exact (ih hx.2 hm).cons x
/-- the classes after two keys are tied: those of neither key, and the two in one -/
theorem clsF_tie (h : Lst f n) (ha : a < n) (hb : b < n) :
    ((((rootsF f n).filter fun r => decide (r ≠ f a ∧ r ≠ f b)).map (memF f n)) ++ [memF (tieF f a b) n (min (f a) (f b))]).Perm (clsF (tieF f a b) n) := by
  have a1 := h a ha
  have b1 := h b hb
  have hm : min (f a) (f b) ∈ rootsF (tieF f a b) n := by
    rw [rootsF_tie h ha hb, List.mem_filter, mem_rootsF]
    rcases Nat.le_total (f a) (f b) with y | y
    · rw [Nat.min_eq_left y, Nat.max_eq_right y]
      exact ⟨⟨by omega, a1.2⟩, decide_eq_true (by omega)⟩
    · rw [Nat.min_eq_right y, Nat.max_eq_left y]
      exact ⟨⟨by omega, b1.2⟩, decide_eq_true (by omega)⟩
  have p := (filt_one (rootsF_nodup (tieF f a b) n) hm).map (memF (tieF f a b) n)
  rw [List.map_append] at p
  have e1 : (rootsF (tieF f a b) n).filter (fun r => decide (r ≠ min (f a) (f b))) = (rootsF f n).filter fun r => decide (r ≠ f a ∧ r ≠ f b) := by
    rw [rootsF_tie h ha hb, List.filter_filter]
    refine List.filter_congr fun r _ => ?_
    rw [← Bool.decide_and]
    refine decide_eq_decide.mpr ?_
    constructor <;> intro z <;> omega
  rw [e1] at p
  have e2 : ((rootsF f n).filter fun r => decide (r ≠ f a ∧ r ≠ f b)).map (memF (tieF f a b) n) = ((rootsF f n).filter fun r => decide (r ≠ f a ∧ r ≠ f b)).map (memF f n) := List.map_congr_left fun r hr => by
    have := of_decide_eq_true (List.mem_filter.mp hr).2
    exact memF_tie h (by omega) (by omega)
  rw [e2] at p
  exact p
/-- the parts that hold one of two keys -/
theorem part_has (h : Lst f n) (ha : a < n) {r : Nat} : a ∈ memF f n r ↔ r = f a := by
  rw [mem_memF]
  exact ⟨fun z => z.2.symm, fun z => ⟨ha, z.symm⟩⟩
theorem memF_nodup (f : Nat → Nat) (n r : Nat) : (memF f n r).Nodup := List.nodup_range.filter _
/-- the parts that hold one of two keys, one behind the other -/
def mrgF (f : Nat → Nat) (n a b : Nat) : List Nat := (((clsF f n).filter fun p => decide (a ∈ p ∨ b ∈ p))).flatten
theorem clsF_has (h : Lst f n) (ha : a < n) (hb : b < n) : (clsF f n).filter (fun p => decide (a ∈ p ∨ b ∈ p)) = ((rootsF f n).filter fun r => decide (r = f a ∨ r = f b)).map (memF f n) := by
  unfold clsF
  rw [List.filter_map]
  congr 1
  refine List.filter_congr fun r _ => decide_eq_decide.mpr ?_
  show a ∈ memF f n r ∨ b ∈ memF f n r ↔ _
  rw [part_has h ha, part_has h hb]
theorem clsF_not (h : Lst f n) (ha : a < n) (hb : b < n) : (clsF f n).filter (fun p => !decide (a ∈ p ∨ b ∈ p)) = ((rootsF f n).filter fun r => decide (r ≠ f a ∧ r ≠ f b)).map (memF f n) := by
  unfold clsF
  rw [List.filter_map]
  congr 1
  refine List.filter_congr fun r _ => ?_
  show (!decide (a ∈ memF f n r ∨ b ∈ memF f n r)) = _
  rw [← decide_not]
  refine decide_eq_decide.mpr ?_
  rw [part_has h ha, part_has h hb]
  exact not_or
theorem mrgF_perm (h : Lst f n) (ha : a < n) (hb : b < n) : (mrgF f n a b).Perm (memF (tieF f a b) n (min (f a) (f b))) := by
  unfold mrgF
  rw [clsF_has h ha hb]
  refine (List.perm_ext_iff_of_nodup ?_ (memF_nodup _ _ _)).mpr fun k => ?_
  · refine List.pairwise_flatten.mpr ⟨fun l hl => ?_, ?_⟩
    · obtain ⟨r, _, rfl⟩ := List.mem_map.mp hl
      exact memF_nodup _ _ _
    · rw [List.pairwise_map]
      refine ((rootsF_nodup f n).filter _).imp fun {r s} hrs => ?_
      intro k h1 j h2 e
      subst e
      exact hrs ((mem_memF.mp h1).2.symm.trans (mem_memF.mp h2).2)
  · rw [List.mem_flatten, mem_memF]
    have a1 := h a ha
    have b1 := h b hb
    constructor
    · rintro ⟨l, hl, hk⟩
      obtain ⟨r, hr, rfl⟩ := List.mem_map.mp hl
      have hr := of_decide_eq_true (List.mem_filter.mp hr).2
      obtain ⟨k1, k2⟩ := mem_memF.mp hk
      refine ⟨k1, ?_⟩
      rcases @tieF_at f a b k with ⟨e, t⟩ | ⟨e, t⟩
      · exact t
      · rw [t]; omega
    · rintro ⟨k1, k2⟩
      have fk : f k = f a ∨ f k = f b := by
        rcases @tieF_at f a b k with ⟨e, t⟩ | ⟨e, t⟩ <;> omega
      have kk := h k k1
      exact ⟨memF f n (f k), List.mem_map.mpr ⟨f k, List.mem_filter.mpr ⟨mem_rootsF.mpr ⟨by omega, kk.2⟩, decide_eq_true fk⟩, rfl⟩, mem_memF.mpr ⟨k1, rfl⟩⟩
end
end L2.Px
set_option Elab.async false
set_option linter.all false
set_option maxRecDepth 100000
set_option maxHeartbeats 1000000
namespace L2.Px
open PySem PySem.Spec PyProof.Rows StX TL
section
open SrtO Srt
variable {prog : Program} {w : World} {A : Around} {E : Value → Shared → Prop} {s : Shared} {vs : List Value} {kl : Value → List Nat}
/-- a list of the numbers L -/
def LstN (h : Heap) (v : Value) (L : List Nat) : Prop := ∃ (b : Addr) (its : List Value) (n : Nat), v = .ref b ∧ h.get? b = some { cls := .type "list", data := .seq its.toArray n } ∧ Vals (natV L) its
theorem reads_nat {h : Heap} : ∀ {L : List Nat} {its : List Value}, Vals (natV L) its → ReadsAll h its (L.map fun m => PyData.int (m : Nat)) []
  | [], _, .nil => .nil
  | m :: L, _, .cons r t => by
    obtain ⟨c, rfl⟩ := r
    exact .cons (as := []) (bs := []) (.int _ _) (reads_nat (L := L) t)
theorem LstN.reads {h : Heap} {v : Value} {L : List Nat} (x : LstN h v L) : ∃ as, Reads h v (.list (L.map fun m => PyData.int (m : Nat))) as := by
  obtain ⟨b, its, n, rfl, e, r⟩ := x
  exact ⟨_, .list e rfl rfl (by rw [List.toList_toArray]; exact reads_nat r)⟩
theorem LstN.stays {h h' : Heap} {v : Value} {L : List Nat} (x : LstN h v L) (st : ∀ b ob, v = .ref b → h.get? b = some ob → h'.get? b = some ob) : LstN h' v L :=
  let ⟨b, its, n, e1, e2, r⟩ := x; ⟨b, its, n, e1, st b _ e1 e2, r⟩
theorem alike_nat : ∀ L M : List Nat, PySem.W.alikeAll (L.map fun m => PyData.int (m : Nat)) (M.map fun m => PyData.int (m : Nat)) = true
  | [], _ => by simp [PySem.W.alikeAll]
  | _ :: _, [] => by simp [PySem.W.alikeAll]
  | a :: L, b :: M => by simp only [List.map_cons, PySem.W.alikeAll, PySem.W.alike, alike_nat L M, Bool.and_self]
theorem depth_nat : ∀ L : List Nat, PyData.depthAll (L.map fun m => PyData.int (m : Nat)) = 0
  | [] => by simp [PyData.depthAll]
  | a :: L => by simp only [List.map_cons, PyData.depthAll, PyData.depth, depth_nat L]; rfl
abbrev hdN (L : List Nat) : Nat := L[0]?.getD 0
abbrev ltH (kl : Value → List Nat) : Value → Value → Bool := fun v u => decide (hdN (kl v) < hdN (kl u))
theorem swoH (kl : Value → List Nat) : Swo (ltH kl) where
  asym := fun x y g => by
    have g := of_decide_eq_true g
    exact decide_eq_false (by omega)
  tr := fun x y z g1 g2 => by
    have g1 := of_decide_eq_false g1
    have g2 := of_decide_eq_false g2
    exact decide_eq_false (by omega)
theorem dataLt_nat {L M : List Nat} (h1 : L ≠ []) (h2 : M ≠ []) (one : hdN L = hdN M → L = M) :
    PySem.W.dataLt (.list (L.map fun m => PyData.int (m : Nat))) (.list (M.map fun m => PyData.int (m : Nat))) = decide (hdN L < hdN M) := by
  rw [PySem.W.dataLt_list]
  match L, M, h1, h2 with
  | a :: L, b :: M, _, _ =>
    by_cases e : a = b
    · have := one e
      rw [this, PyProof.Rows.lex_irrefl]
      exact (decide_eq_false (Nat.lt_irrefl _)).symm
    · rw [List.map_cons, List.map_cons, PySem.W.dataLt_all_no (by simp [PySem.W.alike]) (by simp only [PyData.eqv]; exact decide_eq_false (by omega)), PySem.W.dataLt_int]
      exact decide_eq_decide.mpr (by show (a : Int) < b ↔ a < b; omega)
theorem cmpH (hx : ∀ v ∈ vs, LstN s.heap v (kl v)) (h0 : ∀ v ∈ vs, kl v ≠ []) (one : ∀ v ∈ vs, ∀ u ∈ vs, hdN (kl v) = hdN (kl u) → kl v = kl u) (hu : A.units + 8 < cLine) : SrtO.Cmp prog w A s oneType' (fun p => p.1 ∈ vs) (lt2 (ltH kl)) := by
  intro p q hp hq
  show wpAny (model prog w) A (keyLt' oneType' p.1 q.1) (fun r s' => s' = s ∧ r = decide (hdN (kl p.1) < hdN (kl q.1))) (fun _ _ => False) s
  obtain ⟨as, ra⟩ := (hx _ hp).reads
  obtain ⟨bs, rb⟩ := (hx _ hq).reads
  rw [keyLt'_oneType]
  refine PySem.W.oneLt_alike (fun _ xs z => by cases z) ra rb (by simp only [PySem.W.alike]; exact alike_nat _ _) (fun z => by cases z) ?_ ⟨rfl, dataLt_nat (h0 _ hp) (h0 _ hq) (one _ hp _ hq)⟩
  simp only [PyData.depth, depth_nat]
  omega
theorem sortableH {a : Addr} (h2 : 2 ≤ vs.length) (hx : ∀ v ∈ vs, LstN s.heap v (kl v)) (h0 : ∀ v ∈ vs, kl v ≠ []) (one : ∀ v ∈ vs, ∀ u ∈ vs, hdN (kl v) = hdN (kl u) → kl v = kl u) (ha : ∀ v ∈ vs, v ≠ .ref a) (hu : A.units + 8 < cLine) : SortableO prog w A s a vs (ltH kl) := by
  intro g kept
  have hy : ∀ v ∈ vs, LstN g v (kl v) := fun v m => (hx v m).stays fun b ob e c => kept b ob (fun z => ha v m (z ▸ e)) c
  refine ⟨oneType', fun Q E hq => PySem.W.kas_kind (T := .type "list") h2 (fun v m => ?_) (by decide +kernel) (beq_self_eq_true _) hq, cmpH hy h0 one hu⟩
  obtain ⟨b, its, n, rfl, e, r⟩ := hy v m
  exact (PySem.W.Looks.ld e).andThen .now
end
/-- what the list at a value holds -/
def cntV (H : Hp) : V → List Nat
  | .ref t => match H t with
    | some (.lst xs) => xs.map fun v => match v with
      | .int i => i.toNat
      | _ => 0
    | _ => []
  | _ => []
theorem cntV_at {H : Hp} {t : Addr} {L : List Nat} (e : H t = some (.lst (natV L))) : cntV H (.ref t) = L := by
  unfold cntV
  simp only [e]
  unfold natV
  rw [List.map_map]
  exact (List.map_congr_left fun m _ => Int.toNat_natCast m).trans (List.map_id _)
/-- the list at l holds the lists cs; of where they stand P is true -/
def ClsP (P : Addr → Prop) (H : Hp) (l : Addr) (cs : List (List Nat)) : Prop := ∃ as : List Addr, H l = some (.lst (as.map V.ref)) ∧ as.length = cs.length ∧ ∀ (i : Nat) c, cs[i]? = some c → ∃ a, as[i]? = some a ∧ P a ∧ H a = some (.lst (natV c))
theorem ClsP.at {P : Addr → Prop} {H : Hp} {l : Addr} {cs : List (List Nat)} (h : ClsP P H l cs) : ClsAt H l cs := let ⟨as, e, n, g⟩ := h; ⟨as, e, n, fun i c hc => let ⟨a, x, _, y⟩ := g i c hc; ⟨a, x, y⟩⟩
/-- sorted(xs), xs lists of numbers, each with a first item of its own -/
def rSortLL (K : PySem.W.Frag) : List V → Hp → VK → Prop := fun vs H Q => ∃ (P : Addr → Prop) (a : Addr) (cs : List (List Nat)), vs = [V.ref a] ∧ ClsP P H a cs ∧ (∀ c ∈ cs, c ≠ []) ∧ (∀ c ∈ cs, ∀ d ∈ cs, hdN c = hdN d → c = d) ∧
  ∀ (ds : List (List Nat)) p H', ds.Perm cs → ds.Pairwise (fun c d => hdN c ≤ hdN d) → Same H H' → H p = none → ClsP P H' p ds → Q (.ref p) H'
section
variable {X : Cx}
theorem cr_sortLL (hu : X.A.units + 64 < cLine) : CallR X (.builtin "sorted") (rSortLL X.K) := by
  intro pins s σ H vs us Q I r h
  obtain ⟨P, a, cs, rfl, ⟨as, ea, hl, hc⟩, h0, one, q⟩ := h
  obtain ⟨its, rv, hpl, hz⟩ := I.list (SqL.of ea)
  obtain ⟨u, rfl, ru⟩ := vals1 r
  obtain rfl : u = Value.ref a := ru
  have isr : ∀ x ∈ as.map V.ref, ∃ t, x = V.ref t := fun x m => let ⟨t, _, e⟩ := List.mem_map.mp m; ⟨t, e.symm⟩
  obtain ⟨e1, e2⟩ := refs_back rv isr
  have ecs : cs = (as.map V.ref).map (cntV H) := by
    refine List.ext_getElem? fun i => ?_
    rw [List.getElem?_map, List.getElem?_map]
    by_cases hi : i < cs.length
    · obtain ⟨t, x1, _, x2⟩ := hc i _ (List.getElem?_eq_getElem hi)
      rw [x1, List.getElem?_eq_getElem hi]
      show _ = some (cntV H (.ref t))
      rw [cntV_at x2]
    · rw [List.getElem?_eq_none (by omega), List.getElem?_eq_none (by omega)]; rfl
  have lst : ∀ v ∈ its, LstN s.heap v (cntV H (backV v)) ∧ cntV H (backV v) ∈ cs := fun v m => by
    obtain ⟨t, rfl⟩ := e2 v m
    have hm : V.ref t ∈ as.map V.ref := e1 ▸ List.mem_map.mpr ⟨_, m, rfl⟩
    obtain ⟨i, hi⟩ := List.getElem?_of_mem hm
    rw [List.getElem?_map] at hi
    obtain ⟨t', h1, h2⟩ := Option.map_eq_some_iff.mp hi
    cases h2
    have hlt : i < cs.length := by have := (List.getElem?_eq_some_iff.mp h1).1; omega
    obtain ⟨t2, x1, _, x2⟩ := hc i _ (List.getElem?_eq_getElem hlt)
    rw [h1] at x1
    cases x1
    have ec : cntV H (backV (.ref t)) = cs[i] := cntV_at x2
    obtain ⟨_, it2, n, r2, g1⟩ := I.hok _ _ x2
    rw [ec]
    exact ⟨⟨t, it2, n, rfl, g1, r2⟩, List.getElem_mem _⟩
  refine SrtO.sorted_ord (swoH fun v => cntV H (backV v)) hpl.isList (by rw [← rv.length]; exact hz) (fun h2 g b gb old => sortableH h2 (fun v m => (lst v m).1.stays fun c ob _ e => (old c ob e).2) (fun v m => h0 _ (lst v m).2) (fun v m u m' z => one _ (lst v m).2 _ (lst u m').2 z) (fun v m z => ?_) ?_) fun out o1 o2 => ?_
  · obtain ⟨t, it2, n, rfl, e, _⟩ := (lst v m).1
    cases z
    exact (old _ _ e).1 rfl
  · show X.A.units + 1 + 1 + 8 < cLine
    omega
  · obtain ⟨n, hn⟩ := PyProof.Rows.sortedAll_at s.heap its out.toArray
    have o3 : ∀ u ∈ out, ∃ b, u = Value.ref b := fun u m => e2 u (o2.perm.mem_iff.mp m)
    have pr : (out.map backV).Perm (as.map V.ref) := by rw [e1]; exact o2.perm.map backV
    have np := I.hok.fresh (Nat.le_succ s.heap.objs.size)
    have S : Same H (upd H (s.heap.objs.size + 1) (.lst (out.map backV))) := Same.new (Same.refl _) np
    refine ⟨.ref (s.heap.objs.size + 1), upd H (s.heap.objs.size + 1) (.lst (out.map backV)), I.laid (t' := s.toks) (fun _ _ => PyProof.Rows.sortedAll_old) (Nat.le_succ _) ⟨by rw [pr.length_eq]; exact hz, out, n, vals_back o3, hn⟩, rfl, q ((out.map backV).map (cntV H)) _ _ ?_ ?_ S np ?_⟩
    · rw [ecs]; exact pr.map _
    · rw [List.map_map, List.pairwise_map]
      exact o1.imp fun {x y} g => by
        have g : ¬ hdN (cntV H (backV y)) < hdN (cntV H (backV x)) := of_decide_eq_false g
        exact Nat.le_of_not_lt g
    · have hb : ∃ bs : List Addr, out.map backV = bs.map V.ref := ⟨(out.map backV).map fun v => match v with
        | .ref t => t
        | _ => 0, by
          rw [List.map_map]
          exact (List.map_congr_left fun v m => by
            obtain ⟨u, hu', rfl⟩ := List.mem_map.mp m
            obtain ⟨b, rfl⟩ := o3 u hu'
            rfl).trans (List.map_id _) |>.symm⟩
      obtain ⟨bs, hb⟩ := hb
      refine ⟨bs, by rw [upd_same, hb], by rw [hb, List.length_map, List.length_map], fun i c hi => ?_⟩
      rw [hb, List.getElem?_map, List.getElem?_map] at hi
      obtain ⟨v, h1, rfl⟩ := Option.map_eq_some_iff.mp hi
      obtain ⟨t, h2, rfl⟩ := Option.map_eq_some_iff.mp h1
      have hm : V.ref t ∈ as.map V.ref := pr.mem_iff.mp (hb ▸ List.mem_map.mpr ⟨t, List.mem_of_getElem? h2, rfl⟩)
      obtain ⟨j, hj⟩ := List.getElem?_of_mem hm
      rw [List.getElem?_map] at hj
      obtain ⟨t', h3, h4⟩ := Option.map_eq_some_iff.mp hj
      cases h4
      have hlt : j < cs.length := by have := (List.getElem?_eq_some_iff.mp h3).1; omega
      obtain ⟨t2, x1, x0, x2⟩ := hc j _ (List.getElem?_eq_getElem hlt)
      rw [h3] at x1
      cases x1
      exact ⟨t, h2, x0, S _ _ (by rw [x2, cntV_at x2])⟩
end
theorem sortLLK {X : Cx} {K : PySem.W.Frag} (hk : X.K = K) (hu : X.A.units + 64 < cLine) : CallR X (.builtin "sorted") (rSortLL K) := hk ▸ cr_sortLL hu
end L2.Px
set_option Elab.async false
set_option linter.all false
set_option maxRecDepth 100000
set_option maxHeartbeats 1000000
namespace L2.Px
open PySem PySem.Spec PyProof.Rows StX TL ClX
def putA (kn : List (Nat × Nat)) (ms : List Nat) (c : Nat) : List (Nat × Nat) := ms.foldl (fun l k => putL l k c) kn
theorem putA_snoc (kn : List (Nat × Nat)) (ms : List Nat) (k c : Nat) : putA kn (ms ++ [k]) c = putL (putA kn ms c) k c := by unfold putA; rw [List.foldl_append]; rfl
theorem gL_putA (kn : List (Nat × Nat)) (c j : Nat) (ms : List Nat) : gL (putA kn ms c) j = if j ∈ ms then some c else gL kn j := by
  refine rev_ind (motive := fun ms => gL (putA kn ms c) j = if j ∈ ms then some c else gL kn j) ?_ (fun l a ih => ?_) ms
  · rw [if_neg List.not_mem_nil]; rfl
  · rw [putA_snoc, gL_put, ih]
    by_cases e : j = a
    · rw [if_pos e, if_pos (List.mem_append_right _ (by rw [e]; exact List.mem_cons_self))]
    · rw [if_neg e]
      by_cases m : j ∈ l
      · rw [if_pos m, if_pos (List.mem_append_left _ m)]
      · rw [if_neg m, if_neg (fun z => (List.mem_append.mp z).elim m fun z => e (List.mem_singleton.mp z))]
section
variable {f : Nat → Nat} {ls kn : List (Nat × Nat)} {n a b c r : Nat}
theorem LsOk.putA (h : LsOk n kn) (h1 : 97 ≤ c) (h2 : c ≤ 122) (ms : List Nat) : (∀ k ∈ ms, k < n) → LsOk n (putA kn ms c) := by
  refine rev_ind (motive := fun ms => (∀ k ∈ ms, k < n) → LsOk n (Px.putA kn ms c)) (fun _ => h) (fun l a ih hm => ?_) ms
  rw [putA_snoc]
  exact (ih fun k hk => hm k (List.mem_append_left _ hk)).put (hm a (List.mem_append_right _ List.mem_cons_self)) h1 h2
theorem LsOk.none (h : LsOk n kn) {k : Nat} (hk : ¬ k < n) : gL kn k = none := by
  cases e : gL kn k with
  | none => rfl
  | some c => exact absurd (h.let e).1 hk
/-- what a law knows: the letters of all keys whose letters are known -/
structure KnO (f : Nat → Nat) (ls : List (Nat × Nat)) (n : Nat) (kn : List (Nat × Nat)) : Prop where
  ok : LsOk n kn
  at' : ∀ k, k < n → gL kn k = gL ls (f k)
theorem KnO.nil : KnO id [] n [] := ⟨LsOk.nil, fun _ _ => rfl⟩
theorem KnO.put (h : KnO f ls n kn) (h1 : 97 ≤ c) (h2 : c ≤ 122) : KnO f (putL ls r c) n (putA kn (memF f n r) c) := by
  refine ⟨h.ok.putA h1 h2 _ fun k hk => (mem_memF.mp hk).1, fun k hk => ?_⟩
  rw [gL_putA, gL_put, h.at' k hk]
  by_cases e : f k = r
  · rw [if_pos (mem_memF.mpr ⟨hk, e⟩), if_pos e]
  · rw [if_neg (fun z => e (mem_memF.mp z).2), if_neg e]
theorem KnO.len (h : KnO f ls n kn) : kn.length = knownN f ls n := by
  have p : (kn.map (·.1)).Perm ((List.range n).filter fun k => (gL ls (f k)).isSome) := by
    refine (List.perm_ext_iff_of_nodup h.ok.nd (List.nodup_range.filter _)).mpr fun k => ?_
    rw [List.mem_filter, List.mem_range]
    constructor
    · intro hk
      have hs : (gL kn k).isSome = true := by
        rw [← gL_any, List.any_eq_true]
        obtain ⟨p, hp, rfl⟩ := List.mem_map.mp hk
        exact ⟨p, hp, decide_eq_true rfl⟩
      obtain ⟨p, hp, rfl⟩ := List.mem_map.mp hk
      have hlt := (h.ok.ok p hp).1
      rw [h.at' _ hlt] at hs
      exact ⟨hlt, hs⟩
    · rintro ⟨hk, hs⟩
      rw [← h.at' k hk, ← gL_any, List.any_eq_true] at hs
      obtain ⟨p, hp, e⟩ := hs
      exact List.mem_map.mpr ⟨p, hp, of_decide_eq_true e⟩
  have := p.length_eq
  rw [List.length_map] at this
  exact this
/-- the keys of a class whose letters are not c -/
theorem seen_nil (h : KnO f ls n kn) (hr : f r = r) (hn : r < n) : ((memF f n r).filter fun k => !decide ((gL kn k).getD c = c)) = [] ↔ ∀ c', gL ls r = some c' → c' = c := by
  rw [List.filter_eq_nil_iff]
  constructor
  · intro z c' e
    have := z r (mem_memF.mpr ⟨hn, hr⟩)
    rw [h.at' r hn, hr, e] at this
    simpa using this
  · intro z k hk
    obtain ⟨h1, h2⟩ := mem_memF.mp hk
    rw [h.at' k h1, h2]
    cases e : gL ls r with
    | none => simp
    | some c' => simp [z c' e]
/-- the letters that are known in a class -/
def lettL (kn : List (Nat × Nat)) (ms : List Nat) : List Nat := (ms.filter fun k => (gL kn k).isSome).map fun k => (gL kn k).getD 0
theorem mem_lettL {ms : List Nat} {x : Nat} : x ∈ lettL kn ms ↔ ∃ k ∈ ms, gL kn k = some x := by
  unfold lettL
  rw [List.mem_map]
  constructor
  · rintro ⟨k, hk, rfl⟩
    obtain ⟨h1, h2⟩ := List.mem_filter.mp hk
    obtain ⟨y, e⟩ := Option.isSome_iff_exists.mp h2
    exact ⟨k, h1, by rw [e]; rfl⟩
  · rintro ⟨k, h1, e⟩
    exact ⟨k, List.mem_filter.mpr ⟨h1, by rw [e]; rfl⟩, by rw [e]; rfl⟩
theorem mem_tieM (h : Lst f n) {k : Nat} (ha : a < n) (hb : b < n) : k ∈ memF (tieF f a b) n (min (f a) (f b)) ↔ k < n ∧ (f k = f a ∨ f k = f b) := by
  rw [mem_memF]
  have a1 := h a ha
  have b1 := h b hb
  constructor
  · rintro ⟨h1, h2⟩
    refine ⟨h1, ?_⟩
    rcases @tieF_at f a b k with ⟨e, t⟩ | ⟨e, t⟩ <;> omega
  · rintro ⟨h1, h2⟩
    refine ⟨h1, ?_⟩
    rcases @tieF_at f a b k with ⟨e, t⟩ | ⟨e, t⟩
    · exact t
    · rw [t]; omega
theorem lett_tie (h : KnO f ls n kn) (L : Lst f n) (ha : a < n) (hb : b < n) (x : Nat) : x ∈ lettL kn (memF (tieF f a b) n (min (f a) (f b))) ↔ gL ls (f a) = some x ∨ gL ls (f b) = some x := by
  rw [mem_lettL]
  constructor
  · rintro ⟨k, hk, e⟩
    obtain ⟨h1, h2⟩ := (mem_tieM L ha hb).mp hk
    rw [h.at' k h1] at e
    rcases h2 with h2 | h2 <;> rw [h2] at e
    · exact .inl e
    · exact .inr e
  · rintro (e | e)
    · exact ⟨a, (mem_tieM L ha hb).mpr ⟨ha, .inl rfl⟩, by rw [h.at' a ha]; exact e⟩
    · exact ⟨b, (mem_tieM L ha hb).mpr ⟨hb, .inr rfl⟩, by rw [h.at' b hb]; exact e⟩
/-- the letters of two keys are not against each other -/
def consO (f : Nat → Nat) (ls : List (Nat × Nat)) (a b : Nat) : Prop := ∀ c c', gL ls (f a) = some c → gL ls (f b) = some c' → c = c'
theorem heard_nil (h : KnO f ls n kn) (L : Lst f n) (ha : a < n) (hb : b < n) : ((lettL kn (memF (tieF f a b) n (min (f a) (f b)))).filter fun x => !decide (x = hdN (lettL kn (memF (tieF f a b) n (min (f a) (f b)))))) = [] ↔ consO f ls a b := by
  have hm := lett_tie h L ha hb
  revert hm
  generalize lettL kn (memF (tieF f a b) n (min (f a) (f b))) = LL
  intro hm
  rw [List.filter_eq_nil_iff]
  constructor
  · intro z c c' e e'
    have h1 := z c ((hm c).mpr (.inl e))
    have h2 := z c' ((hm c').mpr (.inr e'))
    simp at h1 h2
    rw [h1, h2]
  · intro z x hx
    have hh : hdN LL ∈ LL := by
      cases LL with
      | nil => cases hx
      | cons y t => exact List.mem_cons_self
    have e1 := (hm x).mp hx
    have e2 := (hm _).mp hh
    have : x = hdN LL := by
      rcases e1 with e1 | e1 <;> rcases e2 with e2 | e2
      · rw [e1] at e2; exact Option.some.inj e2
      · exact z _ _ e1 e2
      · exact (z _ _ e2 e1).symm
      · rw [e1] at e2; exact Option.some.inj e2
    simp [this]
theorem heard_none (h : KnO f ls n kn) (L : Lst f n) (ha : a < n) (hb : b < n) (e : lettL kn (memF (tieF f a b) n (min (f a) (f b))) = []) : KnO (tieF f a b) (hearL f ls a b) n kn := by
  have hm := lett_tie h L ha hb
  rw [e] at hm
  have ea : gL ls (f a) = none := by
    cases z : gL ls (f a) with
    | none => rfl
    | some x => exact absurd ((hm x).mpr (.inl z)) List.not_mem_nil
  have eb : gL ls (f b) = none := by
    cases z : gL ls (f b) with
    | none => rfl
    | some x => exact absurd ((hm x).mpr (.inr z)) List.not_mem_nil
  have eM : gL ls (max (f a) (f b)) = none := by rcases Nat.le_total (f a) (f b) with y | y <;> simp only [y, Nat.max_eq_left, Nat.max_eq_right, ea, eb]
  have em : gL ls (min (f a) (f b)) = none := by rcases Nat.le_total (f a) (f b) with y | y <;> simp only [y, Nat.min_eq_left, Nat.min_eq_right, ea, eb]
  have eh : hearL f ls a b = ls := by unfold hearL; rw [eM]
  rw [eh]
  refine ⟨h.ok, fun k hk => ?_⟩
  rw [h.at' k hk]
  rcases @tieF_at f a b k with ⟨t1, t2⟩ | ⟨t1, t2⟩
  · rw [t2, t1, em, eM]
  · rw [t2]
theorem heard_some (h : KnO f ls n kn) (L : Lst f n) (ha : a < n) (hb : b < n) (lk : LsOk n ls) (hc : consO f ls a b) (e : lettL kn (memF (tieF f a b) n (min (f a) (f b))) ≠ []) :
    KnO (tieF f a b) (hearL f ls a b) n (putA kn (memF (tieF f a b) n (min (f a) (f b))) (hdN (lettL kn (memF (tieF f a b) n (min (f a) (f b)))))) := by
  have hm := lett_tie h L ha hb
  have hmem := fun k => @mem_tieM f n a b L k ha hb
  have hh : hdN (lettL kn (memF (tieF f a b) n (min (f a) (f b)))) ∈ lettL kn (memF (tieF f a b) n (min (f a) (f b))) := by
    revert e
    cases lettL kn (memF (tieF f a b) n (min (f a) (f b))) with
    | nil => intro z; exact absurd rfl z
    | cons y t => intro _; exact List.mem_cons_self
  have hx := (hm _).mp hh
  revert hx
  generalize hdN (lettL kn (memF (tieF f a b) n (min (f a) (f b)))) = c
  intro hx
  have hl : 97 ≤ c ∧ c ≤ 122 := by rcases hx with z | z <;> exact (lk.let z).2
  refine ⟨h.ok.putA hl.1 hl.2 _ fun k hk => (mem_memF.mp hk).1, fun k hk => ?_⟩
  have eH : ∀ j, gL (hearL f ls a b) j = if j = min (f a) (f b) then some c else gL ls j := fun j => by
    unfold hearL
    have a1 := h.at' a ha
    cases eM : gL ls (max (f a) (f b)) with
    | none =>
      show gL ls j = _
      by_cases z : j = min (f a) (f b)
      · rw [if_pos z, z]
        rcases Nat.le_total (f a) (f b) with y | y
        · rw [Nat.max_eq_right y] at eM
          rw [Nat.min_eq_left y]
          rcases hx with q | q
          · exact q
          · rw [eM] at q; cases q
        · rw [Nat.max_eq_left y] at eM
          rw [Nat.min_eq_right y]
          rcases hx with q | q
          · rw [eM] at q; cases q
          · exact q
      · rw [if_neg z]
    | some c' =>
      have ec : c' = c := by
        rcases Nat.le_total (f a) (f b) with y | y
        · rw [Nat.max_eq_right y] at eM
          rcases hx with q | q
          · exact (hc _ _ q eM).symm
          · rw [eM] at q; exact Option.some.inj q
        · rw [Nat.max_eq_left y] at eM
          rcases hx with q | q
          · rw [eM] at q; exact Option.some.inj q
          · exact hc _ _ eM q
      show gL (putL ls _ c') j = _
      rw [gL_put, ec]
  rw [gL_putA, eH]
  by_cases z : k ∈ memF (tieF f a b) n (min (f a) (f b))
  · rw [if_pos z, if_pos (mem_memF.mp z).2]
  · rw [if_neg z, if_neg (fun y => z (mem_memF.mpr ⟨hk, y⟩)), h.at' k hk]
    rcases @tieF_at f a b k with ⟨t1, t2⟩ | ⟨t1, t2⟩
    · exact absurd (mem_memF.mpr ⟨hk, t2⟩) z
    · rw [t2]
theorem openH_roots (f : Nat → Nat) (ls : List (Nat × Nat)) (n : Nat) : openH f ls n = (rootsF f n).filter fun k => (gL ls k).isNone := by
  unfold openH rootsF
  rw [List.filter_filter]
  exact List.filter_congr fun k _ => Bool.and_comm _ _
/-- the keys known, in order -/
theorem KnO.keys (h : KnO f ls n kn) : (kn.map (·.1)).Perm ((knownL f ls n).map (·.1)) := by
  refine (List.perm_ext_iff_of_nodup h.ok.nd (knownL_nd f ls n)).mpr fun k => ?_
  have h1 : ∀ l : List (Nat × Nat), k ∈ l.map (·.1) ↔ (gL l k).isSome = true := fun l => by
    rw [← gL_any, List.any_eq_true, List.mem_map]
    exact ⟨fun ⟨p, hp, e⟩ => ⟨p, hp, decide_eq_true e⟩, fun ⟨p, hp, e⟩ => ⟨p, hp, of_decide_eq_true e⟩⟩
  rw [h1, h1, knownL_get]
  by_cases hk : k < n
  · rw [if_pos hk, h.at' k hk]
  · rw [if_neg hk, h.ok.none hk]
end
section
variable {f : Nat → Nat} {n a b : Nat}
def hasB (a b : Nat) (p : List Nat) : Bool := decide (a ∈ p ∨ b ∈ p)
theorem mrg_take {cs : List (List Nat)} {i : Nat} {p : List Nat} (h : cs[i]? = some p) : ((cs.take (i + 1)).filter (hasB a b)).flatten = ((cs.take i).filter (hasB a b)).flatten ++ (if hasB a b p = true then p else []) := by
  rw [take_snoc h, List.filter_append, List.flatten_append]
  congr 1
  by_cases z : hasB a b p = true
  · rw [if_pos z, List.filter_cons_of_pos z]; simp
  · rw [if_neg z, List.filter_cons_of_neg z]; rfl
theorem rst_take {cs : List (List Nat)} {i : Nat} {p : List Nat} (h : cs[i]? = some p) : (cs.take (i + 1)).filter (fun p => !hasB a b p) = (cs.take i).filter (fun p => !hasB a b p) ++ (if hasB a b p = true then [] else [p]) := by
  rw [take_snoc h, List.filter_append]
  congr 1
  by_cases z : hasB a b p = true
  · rw [if_pos z, List.filter_cons_of_neg (by simp [z])]; rfl
  · rw [if_neg z, List.filter_cons_of_pos (by simp [z])]; rfl
theorem flat_filt_len (L : Lst f n) (a b i : Nat) : ((((clsF f n).take i).filter (hasB a b)).flatten).length ≤ n := by
  have h := flat_take_len f (n := n) i
  refine Nat.le_trans ?_ h
  have : ∀ cs : List (List Nat), ((cs.filter (hasB a b)).flatten).length ≤ cs.flatten.length := fun cs => by
    induction cs with
    | nil => exact Nat.le_refl _
    | cons p cs ih =>
      rw [List.flatten_cons, List.length_append]
      by_cases z : hasB a b p = true
      · rw [List.filter_cons_of_pos z, List.flatten_cons, List.length_append]; omega
      · rw [List.filter_cons_of_neg z]; omega
  exact this _
theorem clsF_len (f : Nat → Nat) (n : Nat) : (clsF f n).length ≤ n := by
  unfold clsF; rw [List.length_map]; exact rootsF_len f n
theorem clsF_ne (L : Lst f n) {c : List Nat} (h : c ∈ clsF f n) : c ≠ [] ∧ hdN c ∈ rootsF f n ∧ c = memF f n (hdN c) := by
  obtain ⟨r, hr, rfl⟩ := List.mem_map.mp h
  have e := memF_head (fun k hk => (L k hk).1) hr
  have eh : hdN (memF f n r) = r := by show (memF f n r)[0]?.getD 0 = r; rw [e]; rfl
  refine ⟨fun z => (by rw [z] at e; cases e), by rw [eh]; exact hr, by rw [eh]⟩
/-- the parts sorted are the classes -/
theorem joined_sorted (L : Lst f n) {ds cs : List (List Nat)} (hp : ds.Perm cs) (hc : cs.Perm (clsF f n)) (hr : ds.Pairwise fun c d => hdN c ≤ hdN d) : ds = clsF f n := by
  have hd := hp.trans hc
  have nd : (ds.map hdN).Nodup := by
    refine (hd.map hdN).nodup_iff.mpr ?_
    have : (clsF f n).map hdN = rootsF f n := by
      unfold clsF
      rw [List.map_map]
      refine (List.map_congr_left fun r hr => ?_).trans (List.map_id _)
      show hdN (memF f n r) = r
      show (memF f n r)[0]?.getD 0 = r
      rw [memF_head (fun k hk => (L k hk).1) hr]; rfl
    rw [this]
    exact rootsF_nodup f n
  have hs : (clsF f n).Pairwise fun c d => hdN c < hdN d := by
    unfold clsF
    rw [List.pairwise_map]
    refine (rootsF_pair f n).imp_of_mem fun {r s} hr hs h => ?_
    show (memF f n r)[0]?.getD 0 < (memF f n s)[0]?.getD 0
    rw [memF_head (fun k hk => (L k hk).1) hr, memF_head (fun k hk => (L k hk).1) hs]
    exact h
  refine rising_unique (lt := fun c d : List Nat => hdN c < hdN d) (fun c => Nat.lt_irrefl _) (fun a b c => Nat.lt_trans) ?_ hs fun c => hd.mem_iff
  exact (hr.and (List.pairwise_map.mp nd)).imp fun h => by have := h.1; have := h.2; omega
theorem joined_parts (L : Lst f n) (ha : a < n) (hb : b < n) : ((((clsF f n).take (clsF f n).length).filter fun p => !hasB a b p) ++ [memF (tieF f a b) n (min (f a) (f b))]).Perm (clsF (tieF f a b) n) := by
  rw [List.take_length]
  have := clsF_tie L ha hb
  rw [← clsF_not L ha hb] at this
  exact this
theorem joined_mrg (L : Lst f n) (ha : a < n) (hb : b < n) : ((((clsF f n).take (clsF f n).length).filter (hasB a b)).flatten).Perm (memF (tieF f a b) n (min (f a) (f b))) := by
  rw [List.take_length]
  exact mrgF_perm L ha hb
end
section
variable {P : Addr → Prop} {K : PySem.W.Frag} {H H' H1 : Hp} {l l' m p : Addr} {cs ds : List (List Nat)} {c : List Nat}
theorem ClsP.mono (h : ClsP P H l cs) (S : Same H H') : ClsP P H' l cs := let ⟨as, e, n, g⟩ := h; ⟨as, S _ _ e, n, fun i c hc => let ⟨a, x, y, z⟩ := g i c hc; ⟨a, x, y, S _ _ z⟩⟩
theorem ClsP.imp {P' : Addr → Prop} (h : ClsP P H l cs) (hp : ∀ a o, H a = some o → P a → P' a) : ClsP P' H l cs := let ⟨as, e, n, g⟩ := h; ⟨as, e, n, fun i c hc => let ⟨a, x, y, z⟩ := g i c hc; ⟨a, x, hp a _ z y, z⟩⟩
theorem ClsP.kl {T : List (Addr × Str)} (h : ClsP P H l cs) (k : Kl T H H') : ClsP P H' l cs := let ⟨as, e, n, g⟩ := h
  ⟨as, k.keep _ _ (nr_refs fun v hv => let ⟨_, _, e⟩ := List.mem_map.mp hv; e ▸ rfl) (fun _ z => nomatch z) e, n, fun i c hc => let ⟨a, x, y, z⟩ := g i c hc; ⟨a, x, y, k.keep _ _ nr_natV (fun _ z => nomatch z) z⟩⟩
theorem ClsP.nil (e : H l = some (.lst [])) : ClsP P H l [] := ⟨[], e, rfl, fun i c hc => by simp at hc⟩
/-- a list with one part more -/
theorem ClsP.snoc {as : List Addr} (h : ClsP P H l cs) (ea : H l = some (.lst (as.map V.ref))) (S : Same H H') (e : H' l' = some (.lst (as.map V.ref ++ [.ref m]))) (hm : H' m = some (.lst (natV c))) (pm : P m) : ClsP P H' l' (cs ++ [c]) := by
  obtain ⟨as', e1, n, g⟩ := h
  rw [ea] at e1
  have e1 : as = as' := by
    have := HO.lst.inj (Option.some.inj e1)
    exact (List.map_inj_right fun a b z => V.ref.inj z).mp this
  subst e1
  refine ⟨as ++ [m], by rw [e, List.map_append]; rfl, by rw [List.length_append, List.length_append, n]; rfl, fun i d hd => ?_⟩
  rcases Nat.lt_or_ge i cs.length with z | z
  · rw [List.getElem?_append_left z] at hd
    obtain ⟨a, x, y, w⟩ := g i d hd
    exact ⟨a, by rw [List.getElem?_append_left (by omega)]; exact x, y, S _ _ w⟩
  · have ei : i = cs.length := by
      have := (List.getElem?_eq_some_iff.mp hd).1
      rw [List.length_append, List.length_singleton] at this; omega
    subst ei
    rw [List.getElem?_append_right (Nat.le_refl _), Nat.sub_self] at hd
    cases hd
    exact ⟨m, by rw [List.getElem?_append_right (by omega), n, Nat.sub_self]; rfl, pm, hm⟩
theorem ClsP.len (h : ClsP P H l cs) {xs : List V} (e : H l = some (.lst xs)) : xs.length = cs.length := by
  obtain ⟨as, e1, n, _⟩ := h
  rw [e] at e1; cases e1
  rw [List.length_map]; exact n
/-- one part -/
theorem ClsP.get (h : ClsP P H l cs) {xs : List V} (e : H l = some (.lst xs)) {i : Nat} {v : V} (hv : xs[i]? = some v) : ∃ a c, v = .ref a ∧ cs[i]? = some c ∧ P a ∧ H a = some (.lst (natV c)) := by
  obtain ⟨as, e1, n, g⟩ := h
  rw [e] at e1; cases e1
  rw [List.getElem?_map] at hv
  obtain ⟨a, h1, rfl⟩ := Option.map_eq_some_iff.mp hv
  have hi : i < cs.length := by have := (List.getElem?_eq_some_iff.mp h1).1; omega
  obtain ⟨a', x, y, z⟩ := g i _ (List.getElem?_eq_getElem hi)
  rw [h1] at x; cases x
  exact ⟨a, _, rfl, List.getElem?_eq_getElem hi, y, z⟩
theorem ClsP.refs (h : ClsP P H l cs) {xs : List V} (e : H l = some (.lst xs)) : ∀ v ∈ xs, isRef v = true := by
  obtain ⟨as, e1, n, _⟩ := h
  rw [e] at e1; cases e1
  intro v hv
  obtain ⟨a, _, rfl⟩ := List.mem_map.mp hv
  rfl
theorem rd_sortLL {Q : VK} {f : Nat → Nat} {n : Nat} (h : ClsP P H l cs) (L : Lst f n) (hc : cs.Perm (clsF f n)) (q : ∀ p H', Same H H' → H p = none → ClsP P H' p (clsF f n) → Q (.ref p) H') : rSortLL K [.ref l] H Q := by
  refine ⟨P, l, cs, rfl, h, fun c m => (clsF_ne L (hc.mem_iff.mp m)).1, fun c m d m' e => ?_, fun ds p H' hp hr S np C => q p H' S np ?_⟩
  · rw [(clsF_ne L (hc.mem_iff.mp m)).2.2, (clsF_ne L (hc.mem_iff.mp m')).2.2, e]
  · rw [← joined_sorted L hp hc hr]; exact C
end
end L2.Px
set_option Elab.async false
set_option linter.all false
set_option maxRecDepth 100000
set_option maxHeartbeats 1000000
namespace L2.Px
open PySem PySem.Spec PyProof.Rows StX TL ClX
/-- the places that a word stands at, with its letters -/
def plW (p : Nat) (w : List Nat) : List (Nat × Nat) := (List.range w.length).map fun j => (p + j, w[j]?.getD 0)
/-- an observation that the law draws -/
def ObsX (ss : List Stp) : Obs → Prop
  | .see p c => p < sz ss ∧ 97 ≤ c ∧ c ≤ 122
  | .word p w => 1 ≤ w.length ∧ w.length ≤ 4 ∧ p + w.length ≤ sz ss ∧ ∀ c ∈ w, 97 ≤ c ∧ c ≤ 122
  | .alike p q => p < sz ss ∧ q < sz ss
/-- nothing known is against it -/
def okO (f : Nat → Nat) (ss : List Stp) (ls : List (Nat × Nat)) : Obs → Prop
  | .see p c => ∀ c', gL ls (f (kat ss p)) = some c' → c' = c
  | .word p w => okW f ss p w ls
  | .alike p q => consO f ls (kat ss p) (kat ss q)
/-- the heads behind it, the letters behind it -/
def fO (f : Nat → Nat) (ss : List Stp) : Obs → Nat → Nat
  | .alike p q => tieF f (kat ss p) (kat ss q)
  | _ => f
def lO (f : Nat → Nat) (ss : List Stp) (ls : List (Nat × Nat)) : Obs → List (Nat × Nat)
  | .see p c => putL ls (f (kat ss p)) c
  | .word p w => lsW f ss p w ls
  | .alike p q => hearL f ls (kat ss p) (kat ss q)
/-- what the reader answers -/
def resO (f : Nat → Nat) (ls : List (Nat × Nat)) (n : Nat) : Obs → Nat
  | .alike _ _ => 26 ^ (openH f ls n).length
  | _ => knownN f ls n
/-- observations, accepted one after another -/
inductive Hist (ss : List Stp) : List Obs → (Nat → Nat) → List (Nat × Nat) → Prop
  | nil : Hist ss [] id []
  | snoc {ob : List Obs} {f : Nat → Nat} {ls : List (Nat × Nat)} {o : Obs} : Hist ss ob f ls → ObsX ss o → okO f ss ls o → Hist ss (ob ++ [o]) (fO f ss o) (lO f ss ls o)
theorem Hist.all {ss : List Stp} {ob : List Obs} {f : Nat → Nat} {ls : List (Nat × Nat)} (h : Hist ss ob f ls) : ∀ o ∈ ob, ObsX ss o := by
  induction h with
  | nil => intro o ho; cases ho
  | snoc _ hx _ ih =>
    intro o ho
    rcases List.mem_append.mp ho with ho | ho
    · exact ih o ho
    · rw [List.mem_singleton.mp ho]; exact hx
section
variable (K : PySem.W.Frag) (CT CP CK CC : Addr)
def sp_x_law_joined : Sp := fun vs H Q _ => ∃ (P : Addr → Prop) (l : Addr) (f : Nat → Nat) (n a b : Nat), vs = [.ref l, .int a, .int b] ∧ ClsP P H l (clsF f n) ∧ (∀ x, H x = none → P x) ∧ Lst f n ∧ a < n ∧ b < n ∧ n ≤ 900 ∧
  ∀ p H', Same H H' → H p = none → ClsP P H' p (clsF (tieF f a b) n) → Q (.ref p) H'
def sp_x_law_seen : Sp := fun vs H Q _ => ∃ (l d r q : Addr) (f : Nat → Nat) (ls kn : List (Nat × Nat)) (ss : List Stp) (p : Nat) (w : List Nat), vs = [.ref l, .ref d, .ref r, .ref q] ∧ ClsAt H l (clsF f (tyL ss).length) ∧ H d = some (.dK (kvM kn)) ∧ H r = some (.lst (natV (ks ss))) ∧ ChAt K H q (plW p w) (sz ss) ∧
  KnO f ls (tyL ss).length kn ∧ Lst f (tyL ss).length ∧ okFrom 0 ss ∧ ss.length ≤ 30 ∧ p + w.length ≤ sz ss ∧ w.length ≤ 20 ∧ (∀ c ∈ w, 97 ≤ c ∧ c ≤ 122) ∧
  (okW f ss p w ls → ∀ d' H' kn', Same H H' → H d' = none → H' d' = some (.dK (kvM kn')) → KnO f (lsW f ss p w ls) (tyL ss).length kn' → Q (.ref d') H') ∧ (¬ okW f ss p w ls → ∀ H', Same H H' → Q .non H')
def sp_x_law_heard : Sp := fun vs H Q _ => ∃ (P : Addr → Prop) (l d : Addr) (f : Nat → Nat) (ls kn : List (Nat × Nat)) (n a b : Nat), vs = [.ref l, .ref d, .int a, .int b] ∧ ClsP P H l (clsF f n) ∧ (∀ x, H x = none → P x) ∧ H d = some (.dK (kvM kn)) ∧
  KnO f ls n kn ∧ LsOk n ls ∧ Lst f n ∧ a < n ∧ b < n ∧ n ≤ 900 ∧
  (consO f ls a b → ∀ t l' d' kn' H', Same H H' → H l' = none → H d' = none → H' t = some (.tup [.ref l', .ref d']) → ClsP P H' l' (clsF (tieF f a b) n) → H' d' = some (.dK (kvM kn')) → KnO (tieF f a b) (hearL f ls a b) n kn' → Q (.ref t) H') ∧
  (¬ consO f ls a b → ∀ H', Same H H' → Q .non H')
def sp_x_law_texts : Sp := fun vs H Q _ => ∃ (l d : Addr) (f : Nat → Nat) (ls kn : List (Nat × Nat)) (n : Nat), vs = [.ref l, .ref d] ∧ ClsAt H l (clsF f n) ∧ H d = some (.dK (kvM kn)) ∧ KnO f ls n kn ∧ Lst f n ∧ n ≤ 900 ∧ ∀ H', Same H H' → Q (.int (26 ^ (openH f ls n).length : Nat)) H'
def sp_x_law_row : Sp := fun vs H Q _ => ∃ (r l : Addr) (ss : List Stp), vs = [.ref r, .str (mkS (tyL ss)), .ref l] ∧ RowAt K H r ∧ H l = some (.lst (natV (ks ss))) ∧ okFrom 0 ss ∧ ss.length ≤ 30 ∧ 1 ≤ sz ss ∧ sz ss ≤ 1000 ∧
  ∀ p o H', Kp H H' → RowAt K H' r → SqT K H' p (obsV o) → ObsX ss o → Q (.ref p) H'
def sp_x_law_observeR : Sp := fun vs H Q E => ∃ (x h d : Addr) (ss : List Stp) (f : Nat → Nat) (ls : List (Nat × Nat)) (ob : List Obs) (o : Obs), vs = .ref x :: obsV o ∧ Reader K CT CP CK H x h d ss f ls ob ∧ ObsX ss o ∧ ob.length < 10000 ∧
  (okO f ss ls o → ∀ H', Bt [x, h, d] H H' → Reader K CT CP CK H' x h d ss (fO f ss o) (lO f ss ls o) (ob ++ [o]) → Q (.int (resO (fO f ss o) (lO f ss ls o) (tyL ss).length o : Nat)) H') ∧
  (¬ okO f ss ls o → ∀ H' kd, Bt [x, h, d] H H' → (kd = d ∨ H kd = none) → Reader K CT CP CK H' x h kd ss f ls ob → E (.ref CC) none H')
end
section
variable {f : Nat → Nat} {ls kn : List (Nat × Nat)} {ss : List Stp} {n p : Nat} {w : List Nat} {o : Obs}
theorem plW_len : (plW p w).length = w.length := by simp [plW]
theorem plW_get {i : Nat} (h : i < w.length) : (plW p w)[i]? = some (p + i, w[i]?.getD 0) := by unfold plW; rw [List.getElem?_map, List.getElem?_range h]; rfl
theorem Lst.fO (L : Lst f (tyL ss).length) (ok : okFrom 0 ss) (h : ObsX ss o) : Lst (Px.fO f ss o) (tyL ss).length := by
  cases o with
  | see p c => exact L
  | word p w => exact L
  | alike p q => exact L.tie (kat_lt ok h.1) (kat_lt ok h.2)
end
theorem Reader.lst {K : PySem.W.Frag} {CT CP CK : Addr} {H : Hp} {x h d : Addr} {ss : List Stp} {f : Nat → Nat} {ls : List (Nat × Nat)} {ob : List Obs} (r : Reader K CT CP CK H x h d ss f ls ob) : Lst f (tyL ss).length := fun k hk => by
  obtain ⟨i, a⟩ := r
  obtain ⟨h1, _, h2⟩ := a.spec hk
  exact ⟨h1, h2⟩
section
variable {K : PySem.W.Frag} {CT CP CK CC : Addr} {H : Hp} {Q : VK} {E : XK} {P : Addr → Prop} {l d r q x h : Addr} {f : Nat → Nat} {ls kn : List (Nat × Nat)} {n a b p : Nat} {ss : List Stp} {w : List Nat} {o : Obs} {ob : List Obs}
theorem rd_joined (h : ClsP P H l (clsF f n)) (hp : ∀ x, H x = none → P x) (L : Lst f n) (ha : a < n) (hb : b < n) (hn : n ≤ 900) (q : ∀ p H', Same H H' → H p = none → ClsP P H' p (clsF (tieF f a b) n) → Q (.ref p) H') : sp_x_law_joined [.ref l, .int (a : Nat), .int (b : Nat)] H Q E := ⟨P, l, f, n, a, b, rfl, h, hp, L, ha, hb, hn, q⟩
theorem rd_texts (h : ClsAt H l (clsF f n)) (e : H d = some (.dK (kvM kn))) (k : KnO f ls n kn) (L : Lst f n) (hn : n ≤ 900) (q : ∀ H', Same H H' → Q (.int (26 ^ (openH f ls n).length : Nat)) H') : sp_x_law_texts [.ref l, .ref d] H Q E := ⟨l, d, f, ls, kn, n, rfl, h, e, k, L, hn, q⟩
theorem rd_row45 (row : RowAt K H r) (e : H l = some (.lst (natV (ks ss)))) (ok : okFrom 0 ss) (few : ss.length ≤ 30) (h1 : 1 ≤ sz ss) (h2 : sz ss ≤ 1000) (q : ∀ p o H', Kp H H' → RowAt K H' r → SqT K H' p (obsV o) → ObsX ss o → Q (.ref p) H') : sp_x_law_row K [.ref r, .str (mkS (tyL ss)), .ref l] H Q E := ⟨r, l, ss, rfl, row, e, ok, few, h1, h2, q⟩
theorem rd_seen45 (h : ClsAt H l (clsF f (tyL ss).length)) (e : H d = some (.dK (kvM kn))) (er : H r = some (.lst (natV (ks ss)))) (c : ChAt K H q (plW p w) (sz ss)) (k : KnO f ls (tyL ss).length kn) (L : Lst f (tyL ss).length) (ok : okFrom 0 ss) (few : ss.length ≤ 30) (hw : p + w.length ≤ sz ss) (hw2 : w.length ≤ 20) (hl : ∀ c ∈ w, 97 ≤ c ∧ c ≤ 122)
    (q1 : okW f ss p w ls → ∀ d' H' kn', Same H H' → H d' = none → H' d' = some (.dK (kvM kn')) → KnO f (lsW f ss p w ls) (tyL ss).length kn' → Q (.ref d') H') (q2 : ¬ okW f ss p w ls → ∀ H', Same H H' → Q .non H') : sp_x_law_seen K [.ref l, .ref d, .ref r, .ref q] H Q E :=
  ⟨l, d, r, q, f, ls, kn, ss, p, w, rfl, h, e, er, c, k, L, ok, few, hw, hw2, hl, q1, q2⟩
theorem rd_heard45 (h : ClsP P H l (clsF f n)) (hp : ∀ x, H x = none → P x) (e : H d = some (.dK (kvM kn))) (k : KnO f ls n kn) (lk : LsOk n ls) (L : Lst f n) (ha : a < n) (hb : b < n) (hn : n ≤ 900)
    (q1 : consO f ls a b → ∀ t l' d' kn' H', Same H H' → H l' = none → H d' = none → H' t = some (.tup [.ref l', .ref d']) → ClsP P H' l' (clsF (tieF f a b) n) → H' d' = some (.dK (kvM kn')) → KnO (tieF f a b) (hearL f ls a b) n kn' → Q (.ref t) H')
    (q2 : ¬ consO f ls a b → ∀ H', Same H H' → Q .non H') : sp_x_law_heard [.ref l, .ref d, .int (a : Nat), .int (b : Nat)] H Q E := ⟨P, l, d, f, ls, kn, n, a, b, rfl, h, hp, e, k, lk, L, ha, hb, hn, q1, q2⟩
end
section
variable {K : PySem.W.Frag} {H H' : Hp} {Q : VK} {P : Addr → Prop} {l r a : Addr} {L M : List Nat} {ms : List V} {cs : List (List Nat)} {c : List Nat}
theorem rd_sortNatP (h : H l = some (.lst (natV L))) (hp : M.Perm L) (hm : M.Pairwise (· < ·)) (q : ∀ p H', Same H H' → H p = none → H' p = some (.lst (natV M)) → Q (.ref p) H') : rSortedI K [.ref l] H Q := by
  refine ⟨l, L.map fun m => ((m : Nat) : Int), rfl, SqL.of (by rw [h, natV_ints]), fun ns p hpn hr hn => ?_⟩
  have e : ns = M.map fun m => ((m : Nat) : Int) := by
    have hM : (M.map fun m => ((m : Nat) : Int)).Pairwise (· < ·) := List.pairwise_map.mpr (hm.imp fun h => by omega)
    have hpm : ns.Perm (M.map fun m => ((m : Nat) : Int)) := hpn.trans (hp.symm.map _)
    have nd : ns.Nodup := hpm.nodup_iff.mpr (hM.imp fun h => by omega)
    exact rising_unique (lt := fun a b : Int => a < b) (fun a => by omega) (fun a b c => by omega) ((hr.and nd).imp fun h => by omega) hM fun x => hpm.mem_iff
  rw [e, ← natV_ints]
  exact q p _ (Same.new (Same.refl _) hn) hn upd_same
/-- a part is appended -/
theorem ClsP.app (h : ClsP P H r cs) (e : H r = some (.lst ms)) (hm : H a = some (.lst (natV c))) (pa : P a) (ne : ∀ x, P x → x ≠ r) : ClsP P (upd H r (.lst (ms ++ [.ref a]))) r (cs ++ [c]) := by
  obtain ⟨as, e1, n, g⟩ := h
  rw [e] at e1; cases e1
  refine ⟨as ++ [a], by rw [upd_same, List.map_append]; rfl, by rw [List.length_append, List.length_append, n]; rfl, fun i d hd => ?_⟩
  rcases Nat.lt_or_ge i cs.length with z | z
  · rw [List.getElem?_append_left z] at hd
    obtain ⟨b, x, y, w⟩ := g i d hd
    exact ⟨b, by rw [List.getElem?_append_left (by omega)]; exact x, y, by rw [upd_ne (ne b y)]; exact w⟩
  · have ei : i = cs.length := by
      have := (List.getElem?_eq_some_iff.mp hd).1
      rw [List.length_append, List.length_singleton] at this; omega
    subst ei
    rw [List.getElem?_append_right (Nat.le_refl _), Nat.sub_self] at hd
    cases hd
    exact ⟨a, by rw [List.getElem?_append_right (by omega), n, Nat.sub_self]; rfl, pa, by rw [upd_ne (ne a pa)]; exact hm⟩
end
theorem filt_head {n : Nat} {p : Nat → Bool} (h : ∃ j, j < n ∧ p j = true) : ∃ j, j < n ∧ p j = true ∧ ((List.range n).filter p)[0]? = some j := by
  obtain ⟨j, h1, h2⟩ := h
  have hm : j ∈ (List.range n).filter p := List.mem_filter.mpr ⟨List.mem_range.mpr h1, h2⟩
  cases e : (List.range n).filter p with
  | nil => rw [e] at hm; cases hm
  | cons k t =>
    have hk : k ∈ (List.range n).filter p := by rw [e]; exact List.mem_cons_self
    obtain ⟨a, b⟩ := List.mem_filter.mp hk
    exact ⟨k, List.mem_range.mp a, b, rfl⟩
theorem filt_natG {α : Type} (L : List Nat) (g : Nat → Bool) (F : Nat → α) : ((List.range L.length).filter fun i => g (L[i]?.getD 0)).map (fun i => F (L[i]?.getD 0)) = (L.filter g).map F := by
  have e : (List.range L.length).map (fun i => L[i]?.getD 0) = L := List.ext_getElem (by simp) fun i h1 h2 => by simp [h2]
  conv => rhs; rw [← e, List.filter_map, List.map_map]
  rfl
theorem rd_slNIJ {K : PySem.W.Frag} {H : Hp} {Q : VK} {l : Addr} {L : List Nat} {i : Nat} {k : Int} (h : H l = some (.lst (natV L))) (hi : i ≤ L.length) (hk : (i : Int) ≤ k) (q : ∀ p H', Same H H' → H' p = some (.lst (natV ((L.drop i).take (k - i).toNat))) → Q (.ref p) H') : rSlL K (.ref l) (some (i : Nat)) (some k) H Q := by
  obtain ⟨j, rfl⟩ : ∃ j : Nat, k = (i + j : Nat) := ⟨(k - i).toNat, by omega⟩
  refine rd_slL (SqL.of h) fun p hp => q p _ (Same.new (Same.refl _) hp) ?_
  rw [upd_same]
  congr 2
  unfold cutV
  rw [HT.sIx_nat, HT.sIx_nat, natV_len, Nat.min_eq_left hi, show (((i + j : Nat) : Int) - (i : Nat)).toNat = j by omega, natV_drop]
  by_cases hj : i + j ≤ L.length
  · rw [Nat.min_eq_left hj, Nat.add_sub_cancel_left, natV_take]
  · rw [Nat.min_eq_right (by omega), ← List.length_drop, natV_take, List.take_of_length_le (Nat.le_refl _), List.take_of_length_le (by rw [List.length_drop]; omega)]
/-- s[:-1] -/
theorem rd_slS1 {H : Hp} {Q : VK} {L : List Nat} (h1 : 1 ≤ L.length) (hz : L.length ≤ 16777216) (q : Q (.str (mkS (L.take (L.length - 1)))) H) : rSlS (.str (mkS L)) none (some (-1)) H Q := by
  refine ⟨_, rfl, by rw [mkS_len, sizeLine_eq]; exact hz, ?_⟩
  have e : cutS (mkS L) none (some (-1)) = mkS (L.take (L.length - 1)) := by
    refine ext_tl ?_
    rw [tl_mkS]
    unfold cutS
    rw [HT.sIx_none, mkS_len]
    have e1 : HT.sIx L.length L.length (some (-1)) = L.length - 1 := by
      show (if (-1 : Int) < 0 then ((-1 : Int) + (L.length : Int)).toNat else min (-1 : Int).toNat L.length) = _
      rw [if_pos (by decide)]; omega
    rw [e1]
    show (L.drop 0).take (L.length - 1 - 0) = _
    rw [List.drop_zero, Nat.sub_zero]
  rw [e]; exact q
end L2.Px
set_option Elab.async false
set_option linter.all false
set_option maxRecDepth 100000
set_option maxHeartbeats 1000000
namespace L2.Px
open PySem PySem.Spec PyProof.Rows StX TL ClX LamX
def obsN : Obs → Str
  | .see _ _ => "see"
  | .word _ _ => "see_word"
  | .alike _ _ => "hear_alike"
def obsP : Obs → Nat
  | .see p _ => p
  | .word p _ => p
  | .alike p _ => p
def obsX : Obs → V
  | .see _ c => .str ⟨#[c]⟩
  | .word _ w => .str (mkS w)
  | .alike _ q => .int (q : Nat)
theorem obsV_eq (o : Obs) : obsV o = [.str (obsN o), .int (obsP o : Nat), obsX o] := by cases o <;> rfl
/-- the list xs at a; if it is tracked, a is not among A -/
def SqN (K : PySem.W.Frag) (H : Hp) (A : List Addr) (a : Addr) (xs : List V) : Prop := (H a = some (.lst xs) ∧ a ∉ A) ∨ (∃ o, H a = some (.frz o (.lst xs))) ∨
  ∃ (o : Obj) (its : Array Value) (n : Nat), K.lookup a = some o ∧ o.cls = .type "list" ∧ o.dict = none ∧ o.data = .seq its n ∧ its.size ≤ sizeLine ∧ Vals xs its.toList
/-- the dice at r; its numbers are not among A -/
def RowN (K : PySem.W.Frag) (H : Hp) (A : List Addr) (r : Addr) : Prop := ∃ (sa : Addr) (sc : List Int) (i : Nat) (s e : Int), H r = some (.lst [.ref sa, .int i, .int s, .int e]) ∧ SqN K H A sa (sc.map V.int)
section
variable {K : PySem.W.Frag} {H H' : Hp} {A A' : List Addr} {r a : Addr} {xs : List V} {T : List (Addr × Str)}
theorem SqN.sq (h : SqN K H A a xs) : SqL K H a xs := by
  rcases h with ⟨h, _⟩ | h | h
  · exact .inl (.inl h)
  · exact .inl (.inr h)
  · exact .inr h
theorem RowN.at (h : RowN K H A r) : RowAt K H r := let ⟨sa, sc, i, s, e, h1, h2⟩ := h; ⟨sa, sc, i, s, e, h1, h2.sq⟩
theorem RowN.of (h : RowAt K H r) (S : Same H H') (n : ∀ a ∈ A, H a = none) : RowN K H' A r := by
  obtain ⟨sa, sc, i, s, e, h1, h2⟩ := h.ex
  refine ⟨sa, sc, i, s, e, S _ _ h1, ?_⟩
  rcases h2 with (h2 | ⟨o, h2⟩) | h2
  · exact .inl ⟨S _ _ h2, fun z => by rw [n _ z] at h2; cases h2⟩
  · exact .inr (.inl ⟨o, S _ _ h2⟩)
  · exact .inr (.inr h2)
theorem RowN.kl (h : RowN K H A r) (k : Kl T H H') (row : RowAt K H' r) : RowN K H' A r := by
  obtain ⟨sa, sc, i, s, e, h1, h2⟩ := h
  obtain ⟨i', s', e', g1⟩ := k.rows _ _ _ _ _ h1
  obtain ⟨sb, sc', i2, s2, e2, g3, g4⟩ := row.ex
  rw [g1] at g3
  cases g3
  refine ⟨sa, sc, i2, s', e', g1, ?_⟩
  rcases h2 with ⟨h2, n⟩ | ⟨o, h2⟩ | h2
  · exact .inl ⟨k.keep _ _ nr_ints (fun _ z => nomatch z) h2, n⟩
  · exact .inr (.inl ⟨o, k.keep _ _ nr_frz (fun _ z => nomatch z) h2⟩)
  · exact .inr (.inr h2)
end
/-- the dice, the rows, the reader, the classes, the letters, the observations -/
structure Lrn (K : PySem.W.Frag) (CT CP CK : Addr) (T : List (Addr × Str)) (H : Hp) (r lk x h d lc dk lo : Addr) (ss : List Stp) (f : Nat → Nat) (ls kn : List (Nat × Nat)) (ob ol : List Obs) (ms : List V) : Prop where
  row : RowN K H [x, h, d] r
  tab : Tabs T H
  rd : Reader K CT CP CK H x h d ss f ls ob
  kl : H lk = some (.lst (natV (ks ss)))
  nk : lk ∉ [x, h, d]
  cl : ClsP (fun a => a ∉ [x, h, d]) H lc (clsF f (tyL ss).length)
  nc : lc ∉ [x, h, d]
  kd : H dk = some (.dK (kvM kn))
  nd : dk ∉ [x, h, d]
  ko : KnO f ls (tyL ss).length kn
  lo : H lo = some (.lst ms)
  ob : ObsAt K H ms ol
section
variable {K : PySem.W.Frag} {CT CP CK : Addr} {T : List (Addr × Str)} {H H' : Hp} {r lk x h d kd lc dk lo a : Addr} {ss : List Stp} {f f' : Nat → Nat} {ls ls' kn kn' : List (Nat × Nat)} {ob ob' ol : List Obs} {ms : List V} {o : Obs}
theorem ObsAt.refs (h : ObsAt K H ms ol) : ∀ v ∈ ms, isRef v = true := by
  intro v hv
  obtain ⟨j, hj⟩ := List.getElem?_of_mem hv
  have hl : j < ol.length := by rw [← h.1]; exact (List.getElem?_eq_some_iff.mp hj).1
  obtain ⟨a, e, _⟩ := h.2 j _ (List.getElem?_eq_getElem hl)
  rw [hj] at e
  cases e
  rfl
theorem Lrn.kl' (L : Lrn K CT CP CK T H r lk x h d lc dk lo ss f ls kn ob ol ms) (k : Kl T H H') (row : RowAt K H' r) : Lrn K CT CP CK T H' r lk x h d lc dk lo ss f ls kn ob ol ms :=
  ⟨L.row.kl k row, k.tabs L.tab, L.rd.kl k, k.keep _ _ nr_natV (fun _ z => nomatch z) L.kl, L.nk, L.cl.kl k, L.nc, k.keep _ _ id (fun _ z => nomatch z) L.kd, L.nd, L.ko, k.keep _ _ (nr_refs L.ob.refs) (fun _ z => nomatch z) L.lo, L.ob.kl k⟩
theorem Lrn.same (L : Lrn K CT CP CK T H r lk x h d lc dk lo ss f ls kn ob ol ms) (S : Same H H') : Lrn K CT CP CK T H' r lk x h d lc dk lo ss f ls kn ob ol ms := L.kl' (.same S) (L.row.at.mono S)
theorem Lrn.kp (L : Lrn K CT CP CK T H r lk x h d lc dk lo ss f ls kn ob ol ms) (k : Kp H H') (row : RowAt K H' r) : Lrn K CT CP CK T H' r lk x h d lc dk lo ss f ls kn ob ol ms := L.kl' (.kp k) row
theorem Lrn.kx (L : Lrn K CT CP CK T H r lk x h d lc dk lo ss f ls kn ob ol ms) (k : Kx T H H') : Lrn K CT CP CK T H' r lk x h d lc dk lo ss f ls kn ob ol ms := L.kl' k.kl (k.row L.row.at)
theorem Reader.at3 (r : Reader K CT CP CK H x h d ss f ls ob) : (∃ dx fs, H x = some (.ins CK dx fs)) ∧ (∃ xs, H h = some (.lst xs)) ∧ ∃ kvs, H d = some (.dK kvs) := by
  obtain ⟨i, a⟩ := r
  exact ⟨⟨_, _, a.ins⟩, ⟨_, a.hl⟩, ⟨_, a.dl⟩⟩
theorem Reader.new (r : Reader K CT CP CK H x h d ss f ls ob) : ∀ a, H a = none → a ∉ [x, h, d] := fun a ha hm => by
  obtain ⟨⟨dx, fs, h1⟩, ⟨xs, h2⟩, ⟨kvs, h3⟩⟩ := r.at3
  simp only [List.mem_cons, List.not_mem_nil, or_false] at hm
  rcases hm with rfl | rfl | rfl
  · rw [ha] at h1; cases h1
  · rw [ha] at h2; cases h2
  · rw [ha] at h3; cases h3
/-- the reader has learned (or has got its old letters back): all else stands -/
theorem Lrn.step {lc' dk' : Addr} (L : Lrn K CT CP CK T H r lk x h d lc dk lo ss f ls kn ob ol ms) (h0 : 0 < (tyL ss).length) (B : Bt [x, h, d] H H') (hk : kd = d ∨ H kd = none) (rd : Reader K CT CP CK H' x h kd ss f' ls' ob')
    (cl : ClsP (fun a => a ∉ [x, h, d]) H lc' (clsF f' (tyL ss).length)) (nc : lc' ∉ [x, h, d]) (ed : H dk' = some (.dK (kvM kn'))) (nd : dk' ∉ [x, h, d]) (ko : KnO f' ls' (tyL ss).length kn') : Lrn K CT CP CK T H' r lk x h kd lc' dk' lo ss f' ls' kn' ob' ol ms := by
  have kh := L.rd.kh h0 B
  have nw : ∀ a, a ∉ [x, h, d] → (∃ u, H a = some u) → a ∉ [x, h, kd] := fun a h1 ⟨u, h2⟩ h3 => by
    rcases hk with rfl | hk
    · exact h1 h3
    · simp only [List.mem_cons, List.not_mem_nil, or_false] at h1 h3
      rcases h3 with h3 | h3 | h3
      · exact h1 (.inl h3)
      · exact h1 (.inr (.inl h3))
      · rw [h3, hk] at h2; cases h2
  obtain ⟨as, ea, n, g⟩ := cl
  refine ⟨?_, kh.tabs L.tab, rd, B _ _ L.nk L.kl, nw _ L.nk ⟨_, L.kl⟩, ⟨as, B _ _ nc ea, n, fun i c hc => let ⟨a, x1, y, z⟩ := g i c hc; ⟨a, x1, nw _ y ⟨_, z⟩, B _ _ y z⟩⟩, nw _ nc ⟨_, ea⟩, B _ _ nd ed, nw _ nd ⟨_, ed⟩, ko, kh.li L.ob.refs L.lo, L.ob.kh kh⟩
  obtain ⟨sa, sc, i, s, e, h1, h2⟩ := L.row
  have hn : ∀ y M, HO.lst [V.ref sa, .int i, .int s, .int e] ≠ .lst (natV (y :: M)) := fun y M z => by
    have := HO.lst.inj z
    simp [natV] at this
  refine ⟨sa, sc, i, s, e, kh _ _ (fun _ _ z => nomatch z) (fun _ z => nomatch z) hn h1, ?_⟩
  rcases h2 with ⟨h2, m⟩ | ⟨u, h2⟩ | h2
  · exact .inl ⟨B _ _ m h2, nw _ m ⟨_, h2⟩⟩
  · exact .inr (.inl ⟨u, kh _ _ (fun _ _ z => nomatch z) (fun _ z => nomatch z) (fun _ _ z => nomatch z) h2⟩)
  · exact .inr (.inr h2)
theorem kvM_len (ls : List (Nat × Nat)) : (kvM ls).length = ls.length := by unfold kvM; rw [List.length_map]
end
section
variable (K : PySem.W.Frag) (CT CP CK : Addr) (T : List (Addr × Str))
/-- texts stay -/
def TxK (H H' : Hp) : Prop := ∀ t tt, TX K CT CP H t tt → TX K CT CP H' t tt
def sp_x_law_learned : Sp := fun vs H Q _ => ∃ (r lk x h d : Addr) (ss : List Stp) (most : Nat), vs = [.ref r, .str (mkS (tyL ss)), .ref lk, .ref x, .int (most : Nat)] ∧ RowN K H [x, h, d] r ∧ Tabs T H ∧ H lk = some (.lst (natV (ks ss))) ∧ lk ∉ [x, h, d] ∧ Reader K CT CP CK H x h d ss id [] [] ∧
  okFrom 0 ss ∧ ss.length ≤ 30 ∧ 1 ≤ sz ss ∧ sz ss ≤ 1000 ∧ most ≤ 9 ∧
  ∀ p H' kd lc dk lo f ls kn ob ms, H' p = some (.tup [.ref lc, .ref dk, .ref lo]) → Lrn K CT CP CK T H' r lk x h kd lc dk lo ss f ls kn ob ob ms → TxK K CT CP H H' → (∀ o ∈ ob, ObsX ss o) → ob.length ≤ most → Q (.ref p) H'
variable {K CT CP CK T}
theorem TxK.refl {H : Hp} : TxK K CT CP H H := fun _ _ h => h
theorem TxK.kl {H H1 H' : Hp} {T : List (Addr × Str)} (h : TxK K CT CP H H1) (k : Kl T H1 H') : TxK K CT CP H H' := fun t tt a => (h t tt a).kl k
theorem TxK.same {H H1 H' : Hp} (h : TxK K CT CP H H1) (k : Same H1 H') : TxK K CT CP H H' := h.kl (T := []) (.same k)
theorem TxK.kp {H H1 H' : Hp} (h : TxK K CT CP H H1) (k : Kp H1 H') : TxK K CT CP H H' := h.kl (T := []) (.kp k)
theorem TxK.kh {H H1 H' : Hp} (h : TxK K CT CP H H1) (hT : CT ≠ CK) (hP : CP ≠ CK) (k : Kh CK H1 H') : TxK K CT CP H H' := fun t tt a => (h t tt a).kh hT hP k
theorem rd_learned {H : Hp} {Q : VK} {E : XK} {r lk x h d : Addr} {ss : List Stp} {i : Int} (row : RowN K H [x, h, d] r) (tab : Tabs T H) (kl : H lk = some (.lst (natV (ks ss)))) (nk : lk ∉ [x, h, d]) (rd : Reader K CT CP CK H x h d ss id [] []) (ok : okFrom 0 ss) (few : ss.length ≤ 30) (h1 : 1 ≤ sz ss) (h2 : sz ss ≤ 1000) (h0 : 0 ≤ i) (h9 : i ≤ 9)
    (q : ∀ p H' kd lc dk lo f ls kn ob ms, H' p = some (.tup [.ref lc, .ref dk, .ref lo]) → Lrn K CT CP CK T H' r lk x h kd lc dk lo ss f ls kn ob ob ms → TxK K CT CP H H' → (∀ o ∈ ob, ObsX ss o) → (ob.length : Int) ≤ i → Q (.ref p) H') :
    sp_x_law_learned K CT CP CK T [.ref r, .str (mkS (tyL ss)), .ref lk, .ref x, .int i] H Q E := by
  obtain ⟨n, rfl⟩ : ∃ n : Nat, i = n := ⟨i.toNat, by omega⟩
  exact ⟨r, lk, x, h, d, ss, n, rfl, row, tab, kl, nk, rd, ok, few, h1, h2, by omega, fun p H' kd lc dk lo f ls kn ob ms e1 e2 e3 e4 e5 => q p H' kd lc dk lo f ls kn ob ms e1 e2 e3 e4 (by omega)⟩
end
theorem obs_word {f : Nat → Nat} {ss : List Stp} {ls : List (Nat × Nat)} {o : Obs} (h : ObsX ss o) : (∃ w : List Nat, obsN o ≠ "hear_alike" ∧ obsX o = .str (mkS w) ∧ 1 ≤ w.length ∧ w.length ≤ 4 ∧ obsP o + w.length ≤ sz ss ∧ (∀ c ∈ w, 97 ≤ c ∧ c ≤ 122) ∧ (okO f ss ls o ↔ okW f ss (obsP o) w ls) ∧ fO f ss o = f ∧ lO f ss ls o = lsW f ss (obsP o) w ls ∧ ∀ g ks n, resO g ks n o = knownN g ks n) ∨ ∃ p q, o = .alike p q := by
  cases o with
  | see p c =>
    obtain ⟨h1, h2, h3⟩ := h
    exact .inl ⟨[c], (by decide +kernel : ("see" : Str) ≠ "hear_alike"), rfl, Nat.le_refl _, by show 1 ≤ 4; decide, h1, fun x hx => by rw [List.mem_singleton.mp hx]; exact ⟨h2, h3⟩, ⟨fun z => ⟨z, trivial⟩, fun z => z.1⟩, rfl, rfl, fun _ _ _ => rfl⟩
  | word p w =>
    obtain ⟨h1, h2, h3, h4⟩ := h
    exact .inl ⟨w, (by decide +kernel : ("see_word" : Str) ≠ "hear_alike"), rfl, h1, h2, h3, h4, Iff.rfl, rfl, rfl, fun _ _ _ => rfl⟩
  | alike p q => exact .inr ⟨p, q, rfl⟩
theorem chAt_of {K : PySem.W.Frag} {H : Hp} {D : Addr} {ys : List V} {p n : Nat} {w : List Nat} (e : H D = some (.lst ys)) (hl : ys.length = w.length) (hw : p + w.length ≤ n) (hc : ∀ c ∈ w, 97 ≤ c ∧ c ≤ 122)
    (h : ∀ i, i < w.length → ∃ y, ys[i]? = some y ∧ ∃ T, y = V.ref T ∧ H T = some (.tup [.int (p + i : Nat), .str ⟨#[w[i]?.getD 0]⟩])) : ChAt K H D (plW p w) n := by
  refine ⟨ys, e, by rw [plW_len, hl], fun i c hi => ?_⟩
  have hi' : i < w.length := by have := (List.getElem?_eq_some_iff.mp hi).1; rwa [plW_len] at this
  rw [plW_get hi'] at hi
  cases hi
  obtain ⟨y, h1, T, rfl, h2⟩ := h i hi'
  have := hc _ (List.getElem_mem hi')
  rw [show w[i]?.getD 0 = w[i] by rw [List.getElem?_eq_getElem hi']; rfl] at h2 ⊢
  exact ⟨by show p + i < n; omega, this.1, this.2, T, h1, h2⟩
/-- the pairs of the one stand in the other, as many -/
def HitD (ks ls : List (Key × V)) : Prop := ks.length = ls.length ∧ ∀ p ∈ ks, valV ls p.1 = some p.2 ∧ flatB p.2 = true
/-- told alike, to a depth: numbers, texts, None, tuples, lists, dicts -/
def AlE (K : PySem.W.Frag) (H : Hp) : Nat → V → V → Prop
  | 0, _, _ => False
  | n + 1, v, w => (∃ i, v = .int i ∧ w = .int i) ∨ (∃ x, v = .str x ∧ w = .str x ∧ x.length ≤ sizeLine) ∨ (v = .non ∧ w = .non) ∨ (∃ a b xs ys, v = .ref a ∧ w = .ref b ∧ (SqT K H a xs ∧ SqT K H b ys ∨ SqL K H a xs ∧ SqL K H b ys) ∧ xs.length = ys.length ∧ xs.length ≤ sizeLine ∧ ∀ (i : Nat) (x y : V), xs[i]? = some x → ys[i]? = some y → AlE K H n x y) ∨
    ∃ a b ks ls, v = .ref a ∧ w = .ref b ∧ H a = some (.dK ks) ∧ H b = some (.dK ls) ∧ HitD ks ls
section
variable {K : PySem.W.Frag} {H H' : Hp} {a b : Addr} {ks ls : List (Key × V)} {Q : VK} {E : XK}
theorem AlE.mono (e : Same H H') : ∀ {n : Nat} {v w : V}, AlE K H n v w → AlE K H' n v w
  | 0, _, _, h => h.elim
  | n + 1, _, _, h => by
    rcases h with h | h | h | ⟨a, b, xs, ys, h1, h2, h3, h4, h5, h6⟩ | ⟨a, b, ks, ls, h1, h2, h3, h4, h5⟩
    · exact .inl h
    · exact .inr (.inl h)
    · exact .inr (.inr (.inl h))
    · refine .inr (.inr (.inr (.inl ⟨a, b, xs, ys, h1, h2, ?_, h4, h5, fun i x y p q => AlE.mono e (h6 i x y p q)⟩)))
      rcases h3 with ⟨p, q⟩ | ⟨p, q⟩
      · exact .inl ⟨Same.tup e p, Same.tup e q⟩
      · exact .inr ⟨e.seq p, e.seq q⟩
    · exact .inr (.inr (.inr (.inr ⟨a, b, ks, ls, h1, h2, e _ _ h3, e _ _ h4, h5⟩)))
theorem AlE.of : ∀ {n : Nat} {v w : V}, AlX K H n v w → AlE K H n v w
  | 0, _, _, h => h.elim
  | n + 1, _, _, h => by
    rcases h with h | h | h | ⟨a, b, xs, ys, h1, h2, h3, h4, h5, h6⟩
    · exact .inl h
    · exact .inr (.inl h)
    · exact .inr (.inr (.inl h))
    · exact .inr (.inr (.inr (.inl ⟨a, b, xs, ys, h1, h2, h3, h4, h5, fun i x y p q => AlE.of (h6 i x y p q)⟩)))
theorem rd_eqADe (h1 : H a = some (.dK ks)) (h2 : H b = some (.dK ls)) (fl : HitD ks ls) (q : Q (.bl true) H) : rEqAD K (.ref a) (.ref b) H Q := .inr ⟨a, b, ks, ls, rfl, rfl, h1, h2, fl.1, fl.2, q⟩
variable (K) in
def sp_x_law_likeE (n : Nat) : Sp := fun vs H Q _ => ∃ v w, vs = [v, w] ∧ AlE K H n v w ∧ ∀ H', Same H H' → Q (.bl true) H'
theorem rd_likeE {n : Nat} {v w : V} (h : AlE K H n v w) (q : ∀ H', Same H H' → Q (.bl true) H') : sp_x_law_likeE K n [v, w] H Q E := ⟨v, w, rfl, h, q⟩
theorem KnO.hit {f : Nat → Nat} {l kn : List (Nat × Nat)} {n : Nat} (h : KnO f l n kn) : HitD (kvM (knownL f l n)) (kvM kn) := by
  refine ⟨by rw [kvM_len, kvM_len, knownL_N, h.len], fun p hp => ?_⟩
  obtain ⟨c, hc, e1, e2⟩ := kvM_mem (k := p.1) (v := p.2) hp
  obtain ⟨h1, h2⟩ := mem_knownL hc
  rw [e1, e2, kvM_val, h.at' _ h1, h2]
  exact ⟨rfl, rfl⟩
/-- sorted(d), d what the law knows -/
theorem rd_sortKo {f : Nat → Nat} {l kn : List (Nat × Nat)} {n : Nat} (e : H a = some (.dK (kvM kn))) (h : KnO f l n kn) (q : ∀ p H', Same H H' → H' p = some (.lst (natV ((knownL f l n).map (·.1)))) → Q (.ref p) H') : rSortDI K [.ref a] H Q := by
  refine ⟨a, _, (kn.map (·.1)).map fun m => ((m : Nat) : Int), rfl, .inl e, ?_, fun ns p hpn hr hn => ?_⟩
  · unfold kvM; rw [List.map_map, List.map_map, List.map_map]; rfl
  · have asc := knownL_asc f l n
    have e : ns = ((knownL f l n).map (·.1)).map fun m => ((m : Nat) : Int) := by
      have hM : (((knownL f l n).map (·.1)).map fun m => ((m : Nat) : Int)).Pairwise (· < ·) := List.pairwise_map.mpr (asc.imp fun h => by omega)
      have hpn2 := hpn.trans (h.keys.map fun m => ((m : Nat) : Int))
      have nd : ns.Nodup := hpn2.nodup_iff.mpr (hM.imp fun h => by omega)
      exact rising_unique (lt := fun a b : Int => a < b) (fun a => by omega) (fun a b c => by omega) ((hr.and nd).imp fun h => by omega) hM fun x => hpn2.mem_iff
    rw [e, ← natV_ints]
    exact q p _ (Same.new (Same.refl _) hn) upd_same
end
theorem rd_rdObsH {K : PySem.W.Frag} {CT CP CK : Addr} {H : Hp} {x h d : Addr} {ss : List Stp} {f : Nat → Nat} {ls : List (Nat × Nat)} {ob : List Obs} {Q : VK} {E : XK} (r : Reader K CT CP CK H x h d ss f ls ob) (ho : ob.length ≤ 10000) (q : ∀ H' p ms, Same H H' → H p = none → H' p = some (.lst ms) → ObsAt K H' ms ob → Q (.ref p) H') : ∃ a' dx fs, V.ref x = .ref a' ∧ H a' = some (.ins CK dx fs) ∧ sp_KeyReader_observations K CT CP CK [.ref a'] H Q E := by
  obtain ⟨i, e⟩ := id r
  exact ⟨x, _, _, rfl, e.ins, x, h, d, ss, f, ls, ob, rfl, r, ho, q⟩
end L2.Px
set_option Elab.async false
set_option linter.all false
set_option maxRecDepth 100000
set_option maxHeartbeats 4000000
namespace L2.Px
open PySem PySem.Spec PyProof.Rows StX TL ClX
def top (i : Nat) : Stmt := PySem.Challenge.pw_pastekeys_k45_readers.main.body.getD i (.Pass ⟨0, 0, 0, 0⟩)
abbrev s_is_integer : Stmt := top 21
abbrev N_is_integer : List Str := ["value", "low", "high"]
theorem sc_is_integer : FnScope N_is_integer ["value", "low", "high"] (defScope s_is_integer) := ⟨rfl, rfl, rfl, by decide +kernel, rfl, by decide +kernel, by decide +kernel⟩
abbrev s_is_letter : Stmt := top 22
abbrev N_is_letter : List Str := ["value"]
theorem sc_is_letter : FnScope N_is_letter ["value"] (defScope s_is_letter) := ⟨rfl, rfl, rfl, by decide +kernel, rfl, by decide +kernel, by decide +kernel⟩
abbrev s_is_word : Stmt := top 23
abbrev N_is_word : List Str := ["value", "letter"]
theorem sc_is_word : FnScope N_is_word ["value"] (defScope s_is_word) := ⟨rfl, rfl, rfl, by decide +kernel, rfl, by decide +kernel, by decide +kernel⟩
abbrev s_is_step : Stmt := top 24
abbrev N_is_step : List Str := ["value", "size", "word", "first", "last", "times"]
theorem sc_is_step : FnScope N_is_step ["value", "size"] (defScope s_is_step) := ⟨rfl, rfl, rfl, by decide +kernel, rfl, by decide +kernel, by decide +kernel⟩
abbrev s_Part_init : Stmt := inClass (top 25) 0
abbrev N_Part_init : List Str := ["self", "start", "length", "is_typed", "first", "last"]
theorem sc_Part_init : FnScope N_Part_init ["self", "start", "length", "is_typed", "first", "last"] (defScope s_Part_init) := ⟨rfl, rfl, rfl, by decide +kernel, rfl, by decide +kernel, by decide +kernel⟩
abbrev s_Part_source : Stmt := inClass (top 25) 1
abbrev N_Part_source : List Str := ["self", "place"]
theorem sc_Part_source : FnScope N_Part_source ["self", "place"] (defScope s_Part_source) := ⟨rfl, rfl, rfl, by decide +kernel, rfl, by decide +kernel, by decide +kernel⟩
abbrev s_Text_init : Stmt := inClass (top 26) 1
abbrev N_Text_init : List Str := ["self", "steps", "parts", "typed", "total", "index", "step"]
theorem sc_Text_init : FnScope N_Text_init ["self", "steps"] (defScope s_Text_init) := ⟨rfl, rfl, rfl, by decide +kernel, rfl, by decide +kernel, by decide +kernel⟩
abbrev s_Text_steps : Stmt := inClass (top 26) 4
abbrev s_Text_typed_keys : Stmt := inClass (top 26) 5
abbrev N_Text_typed_keys : List Str := ["self"]
theorem sc_Text_typed_keys : FnScope N_Text_typed_keys ["self"] (defScope s_Text_typed_keys) := ⟨rfl, rfl, rfl, by decide +kernel, rfl, by decide +kernel, by decide +kernel⟩
abbrev s_Text_size : Stmt := inClass (top 26) 6
abbrev N_Text_size : List Str := ["self"]
theorem sc_Text_size : FnScope N_Text_size ["self"] (defScope s_Text_size) := ⟨rfl, rfl, rfl, by decide +kernel, rfl, by decide +kernel, by decide +kernel⟩
abbrev s_Text_check_place : Stmt := inClass (top 26) 8
abbrev N_Text_check_place : List Str := ["self", "place"]
theorem sc_Text_check_place : FnScope N_Text_check_place ["self", "place"] (defScope s_Text_check_place) := ⟨rfl, rfl, rfl, by decide +kernel, rfl, by decide +kernel, by decide +kernel⟩
abbrev s_Text_key_of : Stmt := inClass (top 26) 10
abbrev N_Text_key_of : List Str := ["self", "place", "number", "part"]
theorem sc_Text_key_of : FnScope N_Text_key_of ["self", "place"] (defScope s_Text_key_of) := ⟨rfl, rfl, rfl, by decide +kernel, rfl, by decide +kernel, by decide +kernel⟩
abbrev s_Text_call : Stmt := inClass (top 26) 11
abbrev N_Text_call : List Str := ["self", "place"]
theorem sc_Text_call : FnScope N_Text_call ["self", "place"] (defScope s_Text_call) := ⟨rfl, rfl, rfl, by decide +kernel, rfl, by decide +kernel, by decide +kernel⟩
abbrev s_Editor_init : Stmt := inClass (top 39) 0
abbrev N_Editor_init : List Str := ["self", "steps"]
theorem sc_Editor_init : FnScope N_Editor_init ["self", "steps"] (defScope s_Editor_init) := ⟨rfl, rfl, rfl, by decide +kernel, rfl, by decide +kernel, by decide +kernel⟩
abbrev s_Editor_present_text : Stmt := inClass (top 39) 4
abbrev N_Editor_present_text : List Str := ["self"]
theorem sc_Editor_present_text : FnScope N_Editor_present_text ["self"] (defScope s_Editor_present_text) := ⟨rfl, rfl, rfl, by decide +kernel, rfl, by decide +kernel, by decide +kernel⟩
abbrev s_Editor_apply : Stmt := inClass (top 39) 15
abbrev N_Editor_apply : List Str := ["self", "operations", "index", "operation", "present", "done", "undone", "results", "finished"]
theorem sc_Editor_apply : FnScope N_Editor_apply ["self", "operations"] (defScope s_Editor_apply) := ⟨rfl, rfl, rfl, by decide +kernel, rfl, by decide +kernel, by decide +kernel⟩
abbrev s_Editor_replay : Stmt := inClass (top 39) 3
abbrev N_Editor_replay : List Str := ["cls", "steps", "operations", "editor"]
theorem sc_Editor_replay : FnScope N_Editor_replay ["cls", "steps", "operations"] (defScope s_Editor_replay) := ⟨rfl, rfl, rfl, by decide +kernel, rfl, by decide +kernel, by decide +kernel⟩
abbrev s_KeyReader_init : Stmt := inClass (top 31) 0
abbrev N_KeyReader_init : List Str := ["self", "text"]
theorem sc_KeyReader_init : FnScope N_KeyReader_init ["self", "text"] (defScope s_KeyReader_init) := ⟨rfl, rfl, rfl, by decide +kernel, rfl, by decide +kernel, by decide +kernel⟩
abbrev s_KeyReader_head : Stmt := inClass (top 31) 1
abbrev N_KeyReader_head : List Str := ["self", "key"]
theorem sc_KeyReader_head : FnScope N_KeyReader_head ["self", "key"] (defScope s_KeyReader_head) := ⟨rfl, rfl, rfl, by decide +kernel, rfl, by decide +kernel, by decide +kernel⟩
abbrev s_KeyReader_accept_letter : Stmt := inClass (top 31) 2
abbrev N_KeyReader_accept_letter : List Str := ["self", "key", "letter", "head"]
theorem sc_KeyReader_accept_letter : FnScope N_KeyReader_accept_letter ["self", "key", "letter"] (defScope s_KeyReader_accept_letter) := ⟨rfl, rfl, rfl, by decide +kernel, rfl, by decide +kernel, by decide +kernel⟩
abbrev s_KeyReader_known_count : Stmt := inClass (top 31) 3
abbrev N_KeyReader_known_count : List Str := ["self", "key"]
theorem sc_KeyReader_known_count : FnScope N_KeyReader_known_count ["self"] (defScope s_KeyReader_known_count) := ⟨rfl, rfl, rfl, by decide +kernel, rfl, by decide +kernel, by decide +kernel⟩
abbrev s_KeyReader_see : Stmt := inClass (top 31) 4
abbrev N_KeyReader_see : List Str := ["self", "place", "letter", "key"]
theorem sc_KeyReader_see : FnScope N_KeyReader_see ["self", "place", "letter"] (defScope s_KeyReader_see) := ⟨rfl, rfl, rfl, by decide +kernel, rfl, by decide +kernel, by decide +kernel⟩
abbrev s_KeyReader_known_letters : Stmt := inClass (top 31) 8
abbrev N_KeyReader_known_letters : List Str := ["self", "found", "key", "head"]
theorem sc_KeyReader_known_letters : FnScope N_KeyReader_known_letters ["self"] (defScope s_KeyReader_known_letters) := ⟨rfl, rfl, rfl, by decide +kernel, rfl, by decide +kernel, by decide +kernel⟩
abbrev s_KeyReader_observations : Stmt := inClass (top 31) 9
abbrev N_KeyReader_observations : List Str := ["self"]
theorem sc_KeyReader_observations : FnScope N_KeyReader_observations ["self"] (defScope s_KeyReader_observations) := ⟨rfl, rfl, rfl, by decide +kernel, rfl, by decide +kernel, by decide +kernel⟩
abbrev s_KeyReader_open_heads : Stmt := inClass (top 31) 12
abbrev N_KeyReader_open_heads : List Str := ["self", "key"]
theorem sc_KeyReader_open_heads : FnScope N_KeyReader_open_heads ["self"] (defScope s_KeyReader_open_heads) := ⟨rfl, rfl, rfl, by decide +kernel, rfl, by decide +kernel, by decide +kernel⟩
abbrev s_KeyReader_count_texts : Stmt := inClass (top 31) 13
abbrev N_KeyReader_count_texts : List Str := ["self", "found", "head"]
theorem sc_KeyReader_count_texts : FnScope N_KeyReader_count_texts ["self"] (defScope s_KeyReader_count_texts) := ⟨rfl, rfl, rfl, by decide +kernel, rfl, by decide +kernel, by decide +kernel⟩
abbrev s_KeyReader_see_word : Stmt := inClass (top 31) 5
abbrev N_KeyReader_see_word : List Str := ["self", "first", "word", "kept", "offset", "letter"]
theorem sc_KeyReader_see_word : FnScope N_KeyReader_see_word ["self", "first", "word"] (defScope s_KeyReader_see_word) := ⟨rfl, rfl, rfl, by decide +kernel, rfl, by decide +kernel, by decide +kernel⟩
abbrev s_KeyReader_hear_alike : Stmt := inClass (top 31) 6
abbrev N_KeyReader_hear_alike : List Str := ["self", "place", "other", "one", "two", "low", "high"]
theorem sc_KeyReader_hear_alike : FnScope N_KeyReader_hear_alike ["self", "place", "other"] (defScope s_KeyReader_hear_alike) := ⟨rfl, rfl, rfl, by decide +kernel, rfl, by decide +kernel, by decide +kernel⟩
abbrev s_x_law_dice : Stmt := top 41
abbrev N_x_law_dice : List Str := ["_law_script", "_law_mixed", "_law_cell"]
theorem sc_x_law_dice : FnScope N_x_law_dice ["_law_script"] (defScope s_x_law_dice) := ⟨rfl, rfl, rfl, by decide +kernel, rfl, by decide +kernel, by decide +kernel⟩
abbrev s_x_law_next : Stmt := top 42
abbrev N_x_law_next : List Str := ["_law_dice_here", "_law_many", "_law_found", "_law_cell"]
theorem sc_x_law_next : FnScope N_x_law_next ["_law_dice_here", "_law_many"] (defScope s_x_law_next) := ⟨rfl, rfl, rfl, by decide +kernel, rfl, by decide +kernel, by decide +kernel⟩
abbrev s_x_law_pick : Stmt := top 44
abbrev N_x_law_pick : List Str := ["_law_d", "_law_some_here"]
theorem sc_x_law_pick : FnScope N_x_law_pick ["_law_d", "_law_some_here"] (defScope s_x_law_pick) := ⟨rfl, rfl, rfl, by decide +kernel, rfl, by decide +kernel, by decide +kernel⟩
abbrev s_x_law_told : Stmt := top 45
abbrev N_x_law_told : List Str := ["_law_work", "e", "_law_some_here", "_law_terms", "_law_k"]
theorem sc_x_law_told : FnScope N_x_law_told ["_law_work"] (defScope s_x_law_told) := ⟨rfl, rfl, rfl, by decide +kernel, rfl, by decide +kernel, by decide +kernel⟩
abbrev s_x_law_word : Stmt := top 46
abbrev N_x_law_word : List Str := ["_law_d", "_law_k"]
theorem sc_x_law_word : FnScope N_x_law_word ["_law_d"] (defScope s_x_law_word) := ⟨rfl, rfl, rfl, by decide +kernel, rfl, by decide +kernel, by decide +kernel⟩
abbrev s_x_law_drawn : Stmt := top 47
abbrev N_x_law_drawn : List Str := ["_law_d", "_law_total", "_law_most", "_law_word_here", "_law_first", "_law_last", "_law_times"]
theorem sc_x_law_drawn : FnScope N_x_law_drawn ["_law_d", "_law_total", "_law_most"] (defScope s_x_law_drawn) := ⟨rfl, rfl, rfl, by decide +kernel, rfl, by decide +kernel, by decide +kernel⟩
abbrev s_x_law_made : Stmt := top 49
abbrev N_x_law_made : List Str := ["_law_steps"]
theorem sc_x_law_made : FnScope N_x_law_made ["_law_steps"] (defScope s_x_law_made) := ⟨rfl, rfl, rfl, by decide +kernel, rfl, by decide +kernel, by decide +kernel⟩
abbrev s_x_law_some : Stmt := top 50
abbrev N_x_law_some : List Str := ["_law_d", "_law_count", "_law_most", "_law_word_here", "_law_steps", "_law_total", "_law_k", "_law_step"]
theorem sc_x_law_some : FnScope N_x_law_some ["_law_d", "_law_count", "_law_most"] (defScope s_x_law_some) := ⟨rfl, rfl, rfl, by decide +kernel, rfl, by decide +kernel, by decide +kernel⟩
abbrev s_x_law_keys : Stmt := top 48
abbrev N_x_law_keys : List Str := ["_law_steps", "_law_typed", "_law_row_here", "_law_step", "_law_k"]
theorem sc_x_law_keys : FnScope N_x_law_keys ["_law_steps"] (defScope s_x_law_keys) := ⟨rfl, rfl, rfl, by decide +kernel, rfl, by decide +kernel, by decide +kernel⟩
abbrev s_x_law_like : Stmt := top 43
abbrev N_x_law_like : List Str := ["_law_found", "_law_due", "_law_k"]
theorem sc_x_law_like : FnScope N_x_law_like ["_law_found", "_law_due"] (defScope s_x_law_like) := ⟨rfl, rfl, rfl, by decide +kernel, rfl, by decide +kernel, by decide +kernel⟩
abbrev s_x_law_joined : Stmt := top 51
abbrev N_x_law_joined : List Str := ["_law_classes", "_law_one", "_law_two", "_law_merged", "_law_rest", "_law_part"]
theorem sc_x_law_joined : FnScope N_x_law_joined ["_law_classes", "_law_one", "_law_two"] (defScope s_x_law_joined) := ⟨rfl, rfl, rfl, by decide +kernel, rfl, by decide +kernel, by decide +kernel⟩
abbrev s_x_law_seen : Stmt := top 52
abbrev N_x_law_seen : List Str := ["_law_classes", "_law_known", "_law_row_here", "_law_places", "_law_place", "_law_letter", "_law_some_here", "_law_key"]
theorem sc_x_law_seen : FnScope N_x_law_seen ["_law_classes", "_law_known", "_law_row_here", "_law_places"] (defScope s_x_law_seen) := ⟨rfl, rfl, rfl, by decide +kernel, rfl, by decide +kernel, by decide +kernel⟩
abbrev s_x_law_heard : Stmt := top 53
abbrev N_x_law_heard : List Str := ["_law_classes", "_law_known", "_law_one", "_law_two", "_law_merged", "_law_some_here", "_law_part", "_law_letters", "_law_key", "_law_letter"]
theorem sc_x_law_heard : FnScope N_x_law_heard ["_law_classes", "_law_known", "_law_one", "_law_two"] (defScope s_x_law_heard) := ⟨rfl, rfl, rfl, by decide +kernel, rfl, by decide +kernel, by decide +kernel⟩
abbrev s_x_law_texts : Stmt := top 56
abbrev N_x_law_texts : List Str := ["_law_classes", "_law_known", "_law_found", "_law_part"]
theorem sc_x_law_texts : FnScope N_x_law_texts ["_law_classes", "_law_known"] (defScope s_x_law_texts) := ⟨rfl, rfl, rfl, by decide +kernel, rfl, by decide +kernel, by decide +kernel⟩
abbrev s_x_law_row : Stmt := top 54
abbrev N_x_law_row : List Str := ["_law_d", "_law_typed", "_law_row_here", "_law_place", "_law_other", "_law_pick_here", "_law_word_here", "_law_key"]
theorem sc_x_law_row : FnScope N_x_law_row ["_law_d", "_law_typed", "_law_row_here"] (defScope s_x_law_row) := ⟨rfl, rfl, rfl, by decide +kernel, rfl, by decide +kernel, by decide +kernel⟩
abbrev s_x_law_observe : Stmt := top 55
abbrev N_x_law_observe : List Str := ["_law_reader", "_law_word_here", "_law_place", "_law_value"]
theorem sc_x_law_observe : FnScope N_x_law_observe ["_law_reader", "_law_word_here", "_law_place", "_law_value"] (defScope s_x_law_observe) := ⟨rfl, rfl, rfl, by decide +kernel, rfl, by decide +kernel, by decide +kernel⟩
abbrev s_x_law_learned : Stmt := top 57
abbrev N_x_law_learned : List Str := ["_law_d", "_law_typed", "_law_row_here", "_law_reader", "_law_most", "_law_classes", "_law_known", "_law_seen_here", "_law_key", "_law_k", "_law_word_here", "_law_place", "_law_value", "_law_found", "_law_due", "_law_letters", "_law_places", "_law_j", "_law_told_here"]
theorem sc_x_law_learned : FnScope N_x_law_learned ["_law_d", "_law_typed", "_law_row_here", "_law_reader", "_law_most"] (defScope s_x_law_learned) := ⟨rfl, rfl, rfl, by decide +kernel, rfl, by decide +kernel, by decide +kernel⟩
abbrev s_law : Stmt := top 58
abbrev N_law : List Str := ["_law_script", "_law_d", "_law_turn", "_law_steps", "_law_typed", "_law_row_here", "_law_reader", "_law_found", "_law_classes", "_law_known", "_law_seen_here"]
theorem sc_law : FnScope N_law ["_law_script"] (defScope s_law) := ⟨rfl, rfl, rfl, by decide +kernel, rfl, by decide +kernel, by decide +kernel⟩
abbrev TL (p_x_law_learned p_law : Addr) : List (Addr × Str) := [(p_x_law_learned, ("_law_learned" : Str) ++ ".<locals>." ++ "<lambda>"), (p_law, ("law" : Str) ++ ".<locals>." ++ "<lambda>")]
structure Lms (K : PySem.W.Frag) (mg : Str → Option Value) (base : Heap) (c_x_law_learned p_x_law_learned c_law p_law : Addr) : Prop where
  tb_x_law_learned : LamX.TabB base mg c_x_law_learned p_x_law_learned
  hu_x_law_learned : ∀ p ∈ TL p_x_law_learned p_law, p.1 = p_x_law_learned → p.2 = ("_law_learned" : Str) ++ ".<locals>." ++ "<lambda>"
  tb_law : LamX.TabB base mg c_law p_law
  hu_law : ∀ p ∈ TL p_x_law_learned p_law, p.1 = p_law → p.2 = ("law" : Str) ++ ".<locals>." ++ "<lambda>"
structure Txt (K : PySem.W.Frag) (mg : Str → Option Value) (CText : Addr) (CPart : Addr) (CEditor : Addr) (CKeyReader : Addr) (CTextError : Addr) (CInvalidStep : Addr) (CInvalidOperation : Addr) (CDecodeError : Addr) (CNotationError : Addr) (CTooLong : Addr) (CInvalidPlace : Addr) (CInvalidLetter : Addr) (CContradiction : Addr) (CInvalidCount : Addr) (c_x_law_learned : Addr) (p_x_law_learned : Addr) (c_law : Addr) (p_law : Addr) : Prop where
  d_is_integer : DefG K mg "is_integer" s_is_integer ["value", "low", "high"]
  d_is_letter : DefG K mg "is_letter" s_is_letter ["value"]
  d_is_word : DefG K mg "is_word" s_is_word ["value"]
  d_is_step : DefG K mg "is_step" s_is_step ["value", "size"]
  d_Part_init : DefK K CPart "Part.__init__" s_Part_init ["self", "start", "length", "is_typed", "first", "last"]
  d_Part_source : DefM K CPart "source" "Part.source" s_Part_source ["self", "place"]
  d_Text_init : DefKS K CText "Text.__init__" s_Text_init ["self"] "steps"
  d_Text_steps : DefP K CText "steps" "Text.steps" s_Text_steps
  d_Text_typed_keys : DefP K CText "typed_keys" "Text.typed_keys" s_Text_typed_keys
  d_Text_size : DefP K CText "size" "Text.size" s_Text_size
  d_Text_check_place : DefM K CText "check_place" "Text.check_place" s_Text_check_place ["self", "place"]
  d_Text_key_of : DefM K CText "key_of" "Text.key_of" s_Text_key_of ["self", "place"]
  d_Text_call : DefX K (CallO K CText) "__call__" "Text.__call__" s_Text_call ["self", "place"]
  d_Editor_init : DefKS K CEditor "Editor.__init__" s_Editor_init ["self"] "steps"
  d_Editor_present_text : DefP K CEditor "present_text" "Editor.present_text" s_Editor_present_text
  d_Editor_apply : DefBS K CEditor "apply" "Editor.apply" s_Editor_apply ["self"] "operations"
  d_Editor_replay : DefC K CEditor "replay" "Editor.replay" s_Editor_replay ["cls", "steps", "operations"]
  d_KeyReader_init : DefK K CKeyReader "KeyReader.__init__" s_KeyReader_init ["self", "text"]
  d_KeyReader_head : DefM K CKeyReader "head" "KeyReader.head" s_KeyReader_head ["self", "key"]
  d_KeyReader_accept_letter : DefM K CKeyReader "accept_letter" "KeyReader.accept_letter" s_KeyReader_accept_letter ["self", "key", "letter"]
  d_KeyReader_known_count : DefM K CKeyReader "known_count" "KeyReader.known_count" s_KeyReader_known_count ["self"]
  d_KeyReader_see : DefM K CKeyReader "see" "KeyReader.see" s_KeyReader_see ["self", "place", "letter"]
  d_KeyReader_known_letters : DefP K CKeyReader "known_letters" "KeyReader.known_letters" s_KeyReader_known_letters
  d_KeyReader_observations : DefP K CKeyReader "observations" "KeyReader.observations" s_KeyReader_observations
  d_KeyReader_open_heads : DefM K CKeyReader "open_heads" "KeyReader.open_heads" s_KeyReader_open_heads ["self"]
  d_KeyReader_count_texts : DefM K CKeyReader "count_texts" "KeyReader.count_texts" s_KeyReader_count_texts ["self"]
  d_KeyReader_see_word : DefM K CKeyReader "see_word" "KeyReader.see_word" s_KeyReader_see_word ["self", "first", "word"]
  d_KeyReader_hear_alike : DefM K CKeyReader "hear_alike" "KeyReader.hear_alike" s_KeyReader_hear_alike ["self", "place", "other"]
  d_x_law_dice : DefG K mg "_law_dice" s_x_law_dice ["_law_script"]
  d_x_law_next : DefG K mg "_law_next" s_x_law_next ["_law_dice_here", "_law_many"]
  d_x_law_pick : DefG K mg "_law_pick" s_x_law_pick ["_law_d", "_law_some_here"]
  d_x_law_told : DefG K mg "_law_told" s_x_law_told ["_law_work"]
  d_x_law_word : DefG K mg "_law_word" s_x_law_word ["_law_d"]
  d_x_law_drawn : DefG K mg "_law_drawn" s_x_law_drawn ["_law_d", "_law_total", "_law_most"]
  d_x_law_made : DefG K mg "_law_made" s_x_law_made ["_law_steps"]
  d_x_law_some : DefG K mg "_law_some" s_x_law_some ["_law_d", "_law_count", "_law_most"]
  d_x_law_keys : DefG K mg "_law_keys" s_x_law_keys ["_law_steps"]
  d_x_law_like : DefG K mg "_law_like" s_x_law_like ["_law_found", "_law_due"]
  d_x_law_joined : DefG K mg "_law_joined" s_x_law_joined ["_law_classes", "_law_one", "_law_two"]
  d_x_law_seen : DefG K mg "_law_seen" s_x_law_seen ["_law_classes", "_law_known", "_law_row_here", "_law_places"]
  d_x_law_heard : DefG K mg "_law_heard" s_x_law_heard ["_law_classes", "_law_known", "_law_one", "_law_two"]
  d_x_law_texts : DefG K mg "_law_texts" s_x_law_texts ["_law_classes", "_law_known"]
  d_x_law_row : DefG K mg "_law_row" s_x_law_row ["_law_d", "_law_typed", "_law_row_here"]
  d_x_law_observe : DefG K mg "_law_observe" s_x_law_observe ["_law_reader", "_law_word_here", "_law_place", "_law_value"]
  d_x_law_learned : DefGC K mg "_law_learned" s_x_law_learned ["_law_d", "_law_typed", "_law_row_here", "_law_reader", "_law_most"] c_x_law_learned
  d_law : DefGC K mg "law" s_law ["_law_script"] c_law
  cText : Cls K CText
  g_Text : mg "Text" = some (.ref CText)
  cPart : Cls K CPart
  g_Part : mg "Part" = some (.ref CPart)
  cEditor : Cls K CEditor
  g_Editor : mg "Editor" = some (.ref CEditor)
  cKeyReader : Cls K CKeyReader
  g_KeyReader : mg "KeyReader" = some (.ref CKeyReader)
  ne_Text_Part : CText ≠ CPart
  ne_Text_Editor : CText ≠ CEditor
  ne_Text_KeyReader : CText ≠ CKeyReader
  ne_Part_Editor : CPart ≠ CEditor
  ne_Part_KeyReader : CPart ≠ CKeyReader
  ne_Editor_KeyReader : CEditor ≠ CKeyReader
  xb_TextError : XBs K mg "TextError" CTextError
  x_InvalidStep : XNm K mg "InvalidStep" CInvalidStep
  x_InvalidOperation : XNm K mg "InvalidOperation" CInvalidOperation
  x_DecodeError : XNm K mg "DecodeError" CDecodeError
  x_NotationError : XNm K mg "NotationError" CNotationError
  x_TooLong : XNm K mg "TooLong" CTooLong
  x_InvalidPlace : XPl K mg "InvalidPlace" CInvalidPlace
  x_InvalidLetter : XPl K mg "InvalidLetter" CInvalidLetter
  x_Contradiction : XPl K mg "Contradiction" CContradiction
  x_InvalidCount : XNm K mg "InvalidCount" CInvalidCount
  z_InvalidPlace : RzC K CTextError [CInvalidStep, CInvalidOperation, CDecodeError, CNotationError, CTooLong, CInvalidPlace, CInvalidLetter, CContradiction, CInvalidCount] 5 CInvalidPlace
  z_InvalidLetter : RzC K CTextError [CInvalidStep, CInvalidOperation, CDecodeError, CNotationError, CTooLong, CInvalidPlace, CInvalidLetter, CContradiction, CInvalidCount] 6 CInvalidLetter
  z_Contradiction : RzC K CTextError [CInvalidStep, CInvalidOperation, CDecodeError, CNotationError, CTooLong, CInvalidPlace, CInvalidLetter, CContradiction, CInvalidCount] 7 CContradiction
  zs_Contradiction : PySem.W.exmOne K (.ref CContradiction) (.ref CContradiction) = some true
  t_x_law_learned : TabC K c_x_law_learned p_x_law_learned
  t_law : TabC K c_law p_law
  na_Part_start : NoAttr K CPart "start"
  na_Part_length : NoAttr K CPart "length"
  na_Part_is_typed : NoAttr K CPart "is_typed"
  na_Part_first : NoAttr K CPart "first"
  na_Part_last : NoAttr K CPart "last"
  na_Text_made : NoAttr K CText "made"
  na_Text_typed : NoAttr K CText "typed"
  na_Text_parts : NoAttr K CText "parts"
  na_Text_total : NoAttr K CText "total"
  na_Editor_present : NoAttr K CEditor "present"
  na_Editor_done : NoAttr K CEditor "done"
  na_Editor_undone : NoAttr K CEditor "undone"
  na_Editor_is_open : NoAttr K CEditor "is_open"
  na_Editor_kept_present : NoAttr K CEditor "kept_present"
  na_Editor_kept_done : NoAttr K CEditor "kept_done"
  na_Editor_kept_undone : NoAttr K CEditor "kept_undone"
  na_KeyReader_source_text : NoAttr K CKeyReader "source_text"
  na_KeyReader_heads : NoAttr K CKeyReader "heads"
  na_KeyReader_letters : NoAttr K CKeyReader "letters"
  na_KeyReader_seen : NoAttr K CKeyReader "seen"
  k_LETTERS : ∃ t, mg "LETTERS" = some (.str "abcdefghijklmnopqrstuvwxyz" t)
  k_MAX_WORD : ∃ t, mg "MAX_WORD" = some (.int 20 t)
  k_MAX_STEPS : ∃ t, mg "MAX_STEPS" = some (.int 30 t)
  k_MAX_TIMES : ∃ t, mg "MAX_TIMES" = some (.int 1000000000 t)
  k_MAX_SIZE_texts : ∃ t, mg "MAX_SIZE_texts" = some (.int 1000000000000000000 t)
  n_isinstance : mg "isinstance" = none
  n_int : mg "int" = none
  n_bool : mg "bool" = none
  n_str : mg "str" = none
  n_len : mg "len" = none
  n_all : mg "all" = none
  n_tuple : mg "tuple" = none
  n_list : mg "list" = none
  n_range : mg "range" = none
  n_enumerate : mg "enumerate" = none
  n_min : mg "min" = none
  n_max : mg "max" = none
  n_sorted : mg "sorted" = none
  n_dict : mg "dict" = none
  n_ValueError : mg "ValueError" = none
local macro_rules | `(tactic| walk_at "rd1") => `(tactic| first
  | with_reducible refine rd_seq ?_ | with_reducible refine rd_asg ?_ | with_reducible refine rd_name ?_ | ((with_reducible refine' rd_var ?k1 ?_); (case k1 => rfl)) | with_reducible refine rd_C ?_ | with_reducible refine rd_op ?_ | with_reducible refine rd_cons ?_ | with_reducible refine rd_nil ?_
  | with_reducible refine rd_test ?_ | with_reducible refine rd_tB ?_ | with_reducible refine rd_bl ?_ | with_reducible refine rd_ifS ?_ | with_reducible refine rd_and ?_ | with_reducible refine rd_or ?_ | with_reducible refine rd_not ?_ | with_reducible refine rd_andV ?_ | with_reducible refine rd_orV ?_ | with_reducible refine rd_notV ?_ | with_reducible refine rd_chain ?_
  | with_reducible refine rd_if ?_ | with_reducible refine rd_g ?_ | with_reducible refine rd_m ?_ | with_reducible refine rd_star ?_ | with_reducible refine rd_tup ?_ | with_reducible refine rd_lst ?_ | with_reducible refine rd_fld ?_ | with_reducible refine rd_cb ?_ | with_reducible refine rd_un ?_ | with_reducible refine rd_makeR ?_ | with_reducible refine rd_makeS ?_
  | with_reducible refine rd_bm ?_ | with_reducible refine rd_bm0 ?_ | with_reducible refine rd_next ?_ | with_reducible refine rd_break ?_ | with_reducible refine rd_cont ?_ | with_reducible refine rd_ret ?_ | with_reducible refine rd_retN ?_ | with_reducible refine rd_drop ?_ | with_reducible refine rd_gcons ?_ | with_reducible refine rd_gnil ?_ | with_reducible refine rd_gsub ?_
  | ((with_reducible refine' rd_aug ?k1 ?_); (case k1 => rfl)) | with_reducible refine rd_ipI ?_ | with_reducible refine rd_sfld ?_ | with_reducible refine rd_for ?_ | with_reducible refine rd_iStr ?_ | with_reducible refine rd_iList ?_ | with_reducible refine rd_iTup ?_ | with_reducible refine rd_iRng1 ?_ | with_reducible refine rd_iRng2 ?_ | with_reducible refine rd_iEnumT ?_ | with_reducible refine rd_match ?_ | with_reducible refine rd_par ?_ | with_reducible refine rd_two ?_
  | with_reducible refine rd_sl ?_ | with_reducible refine rd_noPart ?_ | with_reducible refine rd_part ?_ | with_reducible refine rd_pint ?_ | with_reducible refine rd_listRg ?_ | with_reducible refine rd_rg1 ?_ | with_reducible refine rd_rg2 ?_ | with_reducible refine rd_ixO ?_ | with_reducible refine rd_U ?_ | with_reducible refine rd_int_int ?_ | with_reducible refine rd_int_bl ?_ | with_reducible refine rd_min2 ?_ | with_reducible refine rd_max2 ?_ | with_reducible refine rd_in_sign ?_ | with_reducible refine rd_isN ?_ | with_reducible refine rd_notN ?_
  | with_reducible refine rd_lc ?_ | with_reducible refine rd_yes ?_ | with_reducible refine rd_prop ?_ | with_reducible refine rd_cmeth ?_ | with_reducible refine rd_o ?_ | with_reducible refine rd_add_int ?_ | with_reducible refine rd_sub ?_ | with_reducible refine rd_eq_int ?_ | with_reducible refine rd_eq_str ?_ | with_reducible refine rd_eq_bl ?_ | with_reducible refine rd_ne_int ?_ | with_reducible refine rd_ne_str ?_ | with_reducible refine rd_ne_bl ?_ | with_reducible refine rd_I0 ?_
  | with_reducible refine rd_isi_int_int ?_ | with_reducible refine rd_isi_int_bool ?_ | with_reducible refine rd_isi_int_str ?_ | with_reducible refine rd_isi_int_list ?_ | with_reducible refine rd_isi_int_tuple ?_ | with_reducible refine rd_isi_bl_int ?_ | with_reducible refine rd_isi_bl_bool ?_ | with_reducible refine rd_isi_bl_str ?_ | with_reducible refine rd_isi_bl_list ?_ | with_reducible refine rd_isi_bl_tuple ?_ | with_reducible refine rd_isi_str_int ?_ | with_reducible refine rd_isi_str_bool ?_ | with_reducible refine rd_isi_str_str ?_ | with_reducible refine rd_isi_str_list ?_ | with_reducible refine rd_isi_str_tuple ?_ | with_reducible refine rd_isi_non_int ?_ | with_reducible refine rd_isi_non_bool ?_ | with_reducible refine rd_isi_non_str ?_ | with_reducible refine rd_isi_non_list ?_ | with_reducible refine rd_isi_non_tuple ?_)
local macro_rules | `(tactic| walk_at "rd") => `(tactic| repeat walk_at "rd1")
local macro_rules | `(tactic| walk_at "same") => `(tactic| first | assumption | exact Same.refl _ | (refine Same.new ?_ (by assumption); walk_at "same") | (refine Same.mut ?_ (by assumption); walk_at "same") | (refine Same.trans ?_ (by assumption); walk_at "same"))
section
variable {P : Program} {w : World} {K : PySem.W.Frag} {mg : Str → Option Value} {base : Heap} {CText CPart CEditor CKeyReader CTextError CInvalidStep CInvalidOperation CDecodeError CNotationError CTooLong CInvalidPlace CInvalidLetter CContradiction CInvalidCount c_x_law_learned p_x_law_learned c_law p_law : Addr}
theorem ok_is_integer (T : Txt K mg CText CPart CEditor CKeyReader CTextError CInvalidStep CInvalidOperation CDecodeError CNotationError CTooLong CInvalidPlace CInvalidLetter CContradiction CInvalidCount c_x_law_learned p_x_law_learned c_law p_law) : GOk P w K mg base CX0 1 "is_integer" sp_is_integer := by
  refine T.d_is_integer.ok sc_is_integer (fun vs H Q E h => ?len) (fun f cdv A outer s H vs Q E hr h => ?_)
  case len => obtain ⟨v, lo, hi, rfl, _⟩ := h; rfl
  · obtain ⟨v, lo, hi, rfl, hv, k⟩ := h
    refine ⟨_, (pss_one (ps_ret (pe_and (pe_callB (isiK (K := K) rfl) rfl T.n_isinstance (by decide +kernel) (pa_cons (pv 0) (pa_cons (pe_bltn (v := .ty "int") rfl T.n_int (by decide +kernel) rfl) pa_nil))) (pe_and (pe_not (pe_callB (isiK (K := K) rfl) rfl T.n_isinstance (by decide +kernel) (pa_cons (pv 0) (pa_cons (pe_bltn (v := .ty "bool") rfl T.n_bool (by decide +kernel) rfl) pa_nil)))) (pe_one (pe_chain op_le op_le (pv 1) (pv 0) (pv 2))))))), ?_⟩
    cases v with
    | int i =>
      walk_at "rd"
      refine rd_cT rfl ?_
      walk_at "rd"
      refine rd_cT rfl ?_
      walk_at "rd"
      refine rd_ite (fun h1 => ?_) (fun h1 => ?_)
      · walk_at "rd"
        have e : isInt lo hi (.int i) = decide (i ≤ hi) := by unfold isInt; simp [h1]
        rw [← e]; exact k
      · have e : isInt lo hi (.int i) = false := by unfold isInt; simp [h1]
        rw [e] at k; exact k
    | bl c =>
      walk_at "rd"
      refine rd_cT rfl ?_
      walk_at "rd"
      refine rd_cF rfl ?_
      exact k
    | str x => walk_at "rd"; exact rd_cF rfl k
    | non => walk_at "rd"; exact rd_cF rfl k
    | _ => exact hv.elim
end
section
variable {P : Program} {w : World} {K : PySem.W.Frag} {mg : Str → Option Value} {base : Heap} {CText CPart CEditor CKeyReader CTextError CInvalidStep CInvalidOperation CDecodeError CNotationError CTooLong CInvalidPlace CInvalidLetter CContradiction CInvalidCount c_x_law_learned p_x_law_learned c_law p_law : Addr}
theorem ok_is_letter (T : Txt K mg CText CPart CEditor CKeyReader CTextError CInvalidStep CInvalidOperation CDecodeError CNotationError CTooLong CInvalidPlace CInvalidLetter CContradiction CInvalidCount c_x_law_learned p_x_law_learned c_law p_law) : GOk P w K mg base CX0 1 "is_letter" sp_is_letter := by
  refine T.d_is_letter.ok sc_is_letter (fun vs H Q E h => ?len) (fun f cdv A outer s H vs Q E hr h => ?_)
  case len => obtain ⟨v, rfl, _⟩ := h; rfl
  · obtain ⟨v, rfl, hv, hz, k⟩ := h
    obtain ⟨t_LETTERS, h_LETTERS⟩ := T.k_LETTERS; refine ⟨_, (pss_one (ps_ret (pe_and (pe_callB (isiK (K := K) rfl) rfl T.n_isinstance (by decide +kernel) (pa_cons (pv 0) (pa_cons (pe_bltn (v := .ty "str") rfl T.n_str (by decide +kernel) rfl) pa_nil))) (pe_and (pe_cmpR (eqK (K := K) rfl hr.units) (pe_callB (lenK (K := K) rfl) rfl T.n_len (by decide +kernel) (pa_cons (pv 0) pa_nil)) pe_int (nomark _)) (pe_one (pe_cmpR (oInSign) (pv 0) (pe_glob (v := .str "abcdefghijklmnopqrstuvwxyz") rfl h_LETTERS ⟨_, rfl⟩) rfl)))))), ?_⟩
    cases v with
    | str x =>
      walk_at "rd"
      refine rd_cT rfl ?_
      walk_at "rd"
      refine rd_len_str (hz x rfl) ?_
      walk_at "rd"
      refine rd_ite (fun h1 => ?_) (fun h1 => ?_)
      · walk_at "rd"
        obtain ⟨c, hc⟩ := one_sign (Int.ofNat.inj h1)
        subst hc
        walk_at "rd"
        rw [← isLet_one]
        exact k
      · have e : isLet (.str x) = false := isLet_len fun z => h1 (congrArg Int.ofNat z)
        rw [e] at k; exact k
    | bl c => walk_at "rd"; exact rd_cF rfl k
    | int x => walk_at "rd"; exact rd_cF rfl k
    | non => walk_at "rd"; exact rd_cF rfl k
    | _ => exact hv.elim
end
section
variable {P : Program} {w : World} {K : PySem.W.Frag} {mg : Str → Option Value} {base : Heap} {CText CPart CEditor CKeyReader CTextError CInvalidStep CInvalidOperation CDecodeError CNotationError CTooLong CInvalidPlace CInvalidLetter CContradiction CInvalidCount c_x_law_learned p_x_law_learned c_law p_law : Addr}
theorem ok_is_word (T : Txt K mg CText CPart CEditor CKeyReader CTextError CInvalidStep CInvalidOperation CDecodeError CNotationError CTooLong CInvalidPlace CInvalidLetter CContradiction CInvalidCount c_x_law_learned p_x_law_learned c_law p_law) : GOk P w K mg base CX0 2 "is_word" sp_is_word := by
  refine T.d_is_word.ok sc_is_word (fun vs H Q E h => ?len) (fun f cdv A outer s H vs Q E hr h => ?_)
  case len => obtain ⟨v, rfl, _⟩ := h; rfl
  · obtain ⟨v, rfl, hv, hz, k⟩ := h
    obtain ⟨t_MAX_WORD, h_MAX_WORD⟩ := T.k_MAX_WORD; refine ⟨_, (pss_one (ps_ret (pe_and (pe_callB (isiK (K := K) rfl) rfl T.n_isinstance (by decide +kernel) (pa_cons (pv 0) (pa_cons (pe_bltn (v := .ty "str") rfl T.n_str (by decide +kernel) rfl) pa_nil))) (pe_and (pe_chain op_le op_le pe_int (pe_callB (lenK (K := K) rfl) rfl T.n_len (by decide +kernel) (pa_cons (pv 0) pa_nil)) (pe_glob (v := .int 20) rfl h_MAX_WORD ⟨_, rfl⟩)) (pe_one (pe_callB (allK (K := K) rfl rfl) rfl T.n_all (by decide +kernel) (pa_cons (pe_lc (own := [("letter", 1)]) rfl sc_is_word.nd (pi_str (pv 0)) (blkOk_by (own := [("letter", 1)]) (N := N_is_word) (sc := (defScope s_is_word)) (by first | decide +kernel | rfl)) (fun _ _ _ _ _ => (pg_name (i := 1) sc_is_word.nd rfl (Or.inl rfl))) (fun _ _ _ _ _ => pts_nil) (fun _ _ _ _ _ => (pe_g (ok_is_letter (K := K) T) (hr.mono (by decide)) pass0 (pa_cons (pv 1) pa_nil)))) pa_nil))))))), ?_⟩
    cases v with
    | str x =>
      walk_at "rd"
      refine rd_cT rfl ?_
      walk_at "rd"
      refine rd_len_str (hz x rfl) ?_
      walk_at "rd"
      refine rd_ite (fun h1 => ?_) (fun h1 => ?_)
      · walk_at "rd"
        refine rd_ite (fun h2 => ?_) (fun h2 => ?_)
        · walk_at "rd"
          refine ⟨x, rfl, fun D hD => lc_fun (f := fun i => .bl (isLet (.str ⟨#[(tl x)[i]?.getD 0]⟩))) plain_str hD (by rw [← len_tl]; exact hz x rfl) (fun _ => rfl) (fun i H1 Q1 hi S q => ?_) fun H1 S eD => ?_⟩
          · walk_at "rd"
            exact ⟨_, rfl, trivial, fun y ey => by cases ey; exact sign_small _, q _ (Same.refl _)⟩
          · walk_at "rd"
            have eb : ((List.range (tl x).length).map fun i => V.bl (isLet (.str ⟨#[(tl x)[i]?.getD 0]⟩))) = ((List.range (tl x).length).map fun i => isLet (.str ⟨#[(tl x)[i]?.getD 0]⟩)).map V.bl := by rw [List.map_map]; rfl
            rw [eb] at eD
            refine rd_all (SqL.of eD) ?_
            rw [isWd_all (by rw [← len_tl]; omega) (by rw [← len_tl]; omega)]
            exact k _ S
        · have e : isWd (.str x) = false := isWd_len (by rw [← len_tl]; omega)
          rw [e] at k; exact k _ (Same.refl _)
      · have e : isWd (.str x) = false := isWd_len (by rw [← len_tl]; omega)
        walk_at "rd"
        refine rd_cF rfl ?_
        rw [e] at k; exact k _ (Same.refl _)
    | bl c => walk_at "rd"; exact rd_cF rfl (k _ (Same.refl _))
    | int x => walk_at "rd"; exact rd_cF rfl (k _ (Same.refl _))
    | non => walk_at "rd"; exact rd_cF rfl (k _ (Same.refl _))
    | _ => exact hv.elim
end
section
variable {P : Program} {w : World} {K : PySem.W.Frag} {mg : Str → Option Value} {base : Heap} {CText CPart CEditor CKeyReader CTextError CInvalidStep CInvalidOperation CDecodeError CNotationError CTooLong CInvalidPlace CInvalidLetter CContradiction CInvalidCount c_x_law_learned p_x_law_learned c_law p_law : Addr}
theorem ok_is_step (T : Txt K mg CText CPart CEditor CKeyReader CTextError CInvalidStep CInvalidOperation CDecodeError CNotationError CTooLong CInvalidPlace CInvalidLetter CContradiction CInvalidCount c_x_law_learned p_x_law_learned c_law p_law) : GOk P w K mg base CX0 3 "is_step" (sp_is_step K) := by
  refine T.d_is_step.ok sc_is_step (fun vs H Q E h => ?len) (fun f cdv A outer s H vs Q E hr h => ?_)
  case len => obtain ⟨v, n, s, rfl, _⟩ := h; rfl
  · obtain ⟨v, n, s, rfl, ⟨a, rfl, hq⟩, ok, k⟩ := h
    obtain ⟨t_MAX_TIMES, h_MAX_TIMES⟩ := T.k_MAX_TIMES; refine ⟨_, (pss_one (ps_match (pv 0) (pcs_seq (qs := [.inl "write", .inr 2]) rfl sc_is_step.nd (PatEach.val (PatEach.cap ⟨rfl, (Or.inl rfl), Or.inl rfl⟩ PatEach.nil)) rfl (pt_val (pe_callB (isiK (K := K) rfl) rfl T.n_isinstance (by decide +kernel) (pa_cons (pv 0) (pa_cons (pe_bltn (v := .ty "tuple") rfl T.n_tuple (by decide +kernel) rfl) pa_nil)))) (pss_one (ps_ret (pe_g (ok_is_word (K := K) T) (hr.mono (by decide)) pass0 (pa_cons (pv 2) pa_nil))))
    (pcs_seq (qs := [.inl "paste", .inr 3, .inr 4, .inr 5]) rfl sc_is_step.nd (PatEach.val (PatEach.cap ⟨rfl, (Or.inl rfl), Or.inl rfl⟩ (PatEach.cap ⟨rfl, (Or.inl rfl), Or.inl rfl⟩ (PatEach.cap ⟨rfl, (Or.inl rfl), Or.inl rfl⟩ PatEach.nil)))) rfl (pt_val (pe_callB (isiK (K := K) rfl) rfl T.n_isinstance (by decide +kernel) (pa_cons (pv 0) (pa_cons (pe_bltn (v := .ty "tuple") rfl T.n_tuple (by decide +kernel) rfl) pa_nil)))) (pss_cons (ps_if (PW.pt (pw_or (pt_not (pt_val (pe_g (ok_is_integer (K := K) T) (hr.mono (by decide)) pass0 (pa_cons (pv 4) (pa_cons pe_int (pa_cons (pe_op op_sub (pv 1) pe_int) pa_nil)))))) (pw_or1 (pt_not (pt_val (pe_g (ok_is_integer (K := K) T) (hr.mono (by decide)) pass0 (pa_cons (pv 3) (pa_cons pe_int (pa_cons (pv 4) pa_nil))))))))) (pss_one (ps_ret pe_bl))
    pss_nil)
    (pss_one (ps_ret (pe_g (ok_is_integer (K := K) T) (hr.mono (by decide)) pass0 (pa_cons (pv 5) (pa_cons pe_int (pa_cons (pe_glob (v := .int 1000000000) rfl h_MAX_TIMES ⟨_, rfl⟩) pa_nil)))))))
    (pcs_wild (pss_one (ps_ret pe_bl))))))), ?_⟩
    walk_at "rd"
    cases s with
    | wr w =>
      have e : mBind [.inl "write", .inr 2] (stV (.wr w)) = some [(2, .str w)] := by simp [mBind, stV]
      refine .inr ⟨a, _, rfl, .inl hq, .inr ⟨rfl, ⟨rfl, fun _ => trivial⟩, ?_⟩⟩
      rw [e]
      walk_at "rd"
      refine rd_isi_tup_tuple hq ?_
      walk_at "rd"
      refine rd_cT rfl ?_
      walk_at "rd"
      refine ⟨_, rfl, trivial, fun z ez => by cases ez; exact str_small ok.2.1, fun H' S => ?_⟩
      rw [show isWd (.str w) = true from decide_eq_true (by rw [← len_tl]; exact ok)]
      exact k _ S
    | pa i j t =>
      have e : mBind [.inl "paste", .inr 3, .inr 4, .inr 5] (stV (.pa i j t)) = some [(3, .int i), (4, .int j), (5, .int t)] := by simp [mBind, stV]
      obtain ⟨o1, o2, o3, o4⟩ := ok
      refine .inr ⟨a, _, rfl, .inl hq, .inl ⟨by show 4 ≠ 2; decide, ?_⟩⟩
      refine .inr ⟨a, _, rfl, .inl hq, .inr ⟨rfl, ⟨rfl, fun _ => trivial⟩, ?_⟩⟩
      rw [e]
      walk_at "rd"
      refine rd_isi_tup_tuple hq ?_
      walk_at "rd"
      refine rd_cT rfl ?_
      walk_at "rd"
      refine ⟨_, _, _, rfl, trivial, ?_⟩
      rw [show isInt 0 ((n : Int) - 1) (.int j) = true from decide_eq_true (by omega)]
      walk_at "rd"
      refine rd_cF rfl ?_
      walk_at "rd"
      refine ⟨_, _, _, rfl, trivial, ?_⟩
      rw [show isInt 0 (j : Int) (.int i) = true from decide_eq_true (by omega)]
      walk_at "rd"
      refine rd_cF rfl ?_
      walk_at "rd"
      refine ⟨_, _, _, rfl, trivial, ?_⟩
      rw [show isInt 1 1000000000 (.int t) = true from decide_eq_true (by omega)]
      exact k _ (Same.refl _)
end
section
variable {P : Program} {w : World} {K : PySem.W.Frag} {mg : Str → Option Value} {base : Heap} {CText CPart CEditor CKeyReader CTextError CInvalidStep CInvalidOperation CDecodeError CNotationError CTooLong CInvalidPlace CInvalidLetter CContradiction CInvalidCount c_x_law_learned p_x_law_learned c_law p_law : Addr}
theorem ok_Part_init (T : Txt K mg CText CPart CEditor CKeyReader CTextError CInvalidStep CInvalidOperation CDecodeError CNotationError CTooLong CInvalidPlace CInvalidLetter CContradiction CInvalidCount c_x_law_learned p_x_law_learned c_law p_law) : KOk P w K mg base CX0 1 CPart (sp_Part_init CPart) := by
  refine T.d_Part_init.ok sc_Part_init (fun vs H Q E h => ?len) (fun f cdv A outer s H vs Q E hr h => ?_)
  case len => obtain ⟨x, dx, s, n, t, f, l, rfl, _⟩ := h; rfl
  · obtain ⟨x, dx, s0, n, t, f0, l, rfl, hx, k⟩ := h
    refine ⟨_, (pss_cons (ps_fld (pv 0) (pv 1) rfl)
    (pss_cons (ps_fld (pv 0) (pv 2) rfl)
    (pss_cons (ps_fld (pv 0) (pv 3) rfl)
    (pss_cons (ps_fld (pv 0) (pv 4) rfl)
    (pss_one (ps_fld (pv 0) (pv 5) rfl)))))), ?_⟩
    walk_at "rd"
    refine rd_sfld_at hx T.cPart T.na_Part_start (by decide) ?_
    walk_at "rd"
    refine rd_sfld_at upd_same T.cPart T.na_Part_length fl1 ?_
    walk_at "rd"
    refine rd_sfld_at upd_same T.cPart T.na_Part_is_typed fl2 ?_
    walk_at "rd"
    refine rd_sfld_at upd_same T.cPart T.na_Part_first fl3 ?_
    walk_at "rd"
    refine rd_sfld_at upd_same T.cPart T.na_Part_last fl4 ?_
    rw [upd_upd, upd_upd, upd_upd, upd_upd]
    exact k
end
section
variable {P : Program} {w : World} {K : PySem.W.Frag} {mg : Str → Option Value} {base : Heap} {CText CPart CEditor CKeyReader CTextError CInvalidStep CInvalidOperation CDecodeError CNotationError CTooLong CInvalidPlace CInvalidLetter CContradiction CInvalidCount c_x_law_learned p_x_law_learned c_law p_law : Addr}
theorem ok_Part_source (T : Txt K mg CText CPart CEditor CKeyReader CTextError CInvalidStep CInvalidOperation CDecodeError CNotationError CTooLong CInvalidPlace CInvalidLetter CContradiction CInvalidCount c_x_law_learned p_x_law_learned c_law p_law) : MOk P w K mg base CX0 1 CPart "source" (sp_Part_source CPart) := by
  refine T.d_Part_source.ok sc_Part_source (fun vs H Q E h => ?len) (fun f cdv A outer s H vs Q E hr h => ?_)
  case len => obtain ⟨p, dx, s, n, t, f, l, z, rfl, _⟩ := h; rfl
  · obtain ⟨p, dx, s0, n, t, f0, l, z, rfl, hp, hfl, k⟩ := h
    refine ⟨_, (pss_cons (ps_if (pt_val (pe_fldK (K := K) rfl (pv 0) (by rfl))) (pss_one (ps_ret (pe_op op_sub (pe_op (addK (K := K) rfl) (pe_fldK (K := K) rfl (pv 0) (by rfl)) (pv 1)) (pe_fldK (K := K) rfl (pv 0) (by rfl)))))
    pss_nil)
    (pss_one (ps_ret (pe_op (addK (K := K) rfl) (pe_fldK (K := K) rfl (pv 0) (by rfl)) (pe_op op_mod (pe_callTy cInt rfl T.n_int (by decide +kernel) (pa_cons (pe_op op_sub (pv 1) (pe_fldK (K := K) rfl (pv 0) (by rfl))) pa_nil)) (pe_op (addK (K := K) rfl) (pe_op op_sub (pe_fldK (K := K) rfl (pv 0) (by rfl)) (pe_fldK (K := K) rfl (pv 0) (by rfl))) pe_int)))))), ?_⟩
    walk_at "rd"
    refine rd_fld_at hp T.cPart T.na_Part_is_typed partF_typed ?_
    walk_at "rd"
    refine rd_iteC (fun ht => ?_) (fun ht => ?_)
    · walk_at "rd"
      refine rd_fld_at hp T.cPart T.na_Part_first partF_first ?_
      walk_at "rd"
      refine rd_fld_at hp T.cPart T.na_Part_start partF_start ?_
      walk_at "rd"
      rw [if_pos ht] at k
      exact k
    · walk_at "rd"
      refine rd_fld_at hp T.cPart T.na_Part_first partF_first ?_
      walk_at "rd"
      refine rd_fld_at hp T.cPart T.na_Part_start partF_start ?_
      walk_at "rd"
      refine rd_fld_at hp T.cPart T.na_Part_last partF_last ?_
      walk_at "rd"
      refine rd_fld_at hp T.cPart T.na_Part_first partF_first ?_
      walk_at "rd"
      refine rd_I (by have := hfl ht; omega) ?_
      walk_at "rd"
      rw [if_neg (by simp [ht])] at k
      exact k
end
section
variable {P : Program} {w : World} {K : PySem.W.Frag} {mg : Str → Option Value} {base : Heap} {CText CPart CEditor CKeyReader CTextError CInvalidStep CInvalidOperation CDecodeError CNotationError CTooLong CInvalidPlace CInvalidLetter CContradiction CInvalidCount c_x_law_learned p_x_law_learned c_law p_law : Addr}
theorem ok_Text_init (T : Txt K mg CText CPart CEditor CKeyReader CTextError CInvalidStep CInvalidOperation CDecodeError CNotationError CTooLong CInvalidPlace CInvalidLetter CContradiction CInvalidCount c_x_law_learned p_x_law_learned c_law p_law) : KOk P w K mg base CX0 4 CText (spStar 1 (sp_Text_init K CText CPart)) := by
  refine T.d_Text_init.ok sc_Text_init (fun f cdv A outer s H vs Q E hr h => ?_)
  · obtain ⟨x, dx, m, rs, ss, rfl, hx, hm, hst, ok, few, k⟩ := h
    obtain ⟨t_MAX_SIZE_texts, h_MAX_SIZE_texts⟩ := T.k_MAX_SIZE_texts; obtain ⟨t_MAX_STEPS, h_MAX_STEPS⟩ := T.k_MAX_STEPS; refine ⟨_, (pss_cons (ps_set (i := 2) sc_Text_init.nd rfl (Or.inl rfl) (pe_lst pa_nil))
    (pss_cons (ps_asg (pe_tup (pa_cons pe_str (pa_cons pe_int pa_nil))) (pg_tupK (K := K) (n := 2) rfl rfl (pgs_cons (pg_name (i := 3) sc_Text_init.nd rfl (Or.inl rfl)) (pgs_cons (pg_name (i := 4) sc_Text_init.nd rfl (Or.inl rfl)) pgs_nil))))
    (pss_cons (ps_for PassesOwn.never rfl (pi_enumT T.n_enumerate (pa_cons (pv 1) pa_nil)) (pg_tupK (K := K) (n := 2) rfl rfl (pgs_cons (pg_name (i := 5) sc_Text_init.nd rfl (Or.inl rfl)) (pgs_cons (pg_name (i := 6) sc_Text_init.nd rfl (Or.inl rfl)) pgs_nil))) (pss_cons (ps_if (PW.pt (pw_or (pt_cmpR (eqK (K := K) rfl hr.units) (pv 5) (pe_glob (v := .int 30) rfl h_MAX_STEPS ⟨_, rfl⟩) (nomark _)) (pw_or1 (pt_not (pt_val (pe_g (ok_is_step (K := K) T) (hr.mono (by decide)) pass0 (pa_cons (pv 6) (pa_cons (pv 4) pa_nil)))))))) (pss_one ps_never)
    pss_nil)
    (pss_cons (ps_if (pt_cmpR (eqK (K := K) rfl hr.units) (pe_ix (ixK (K := K) rfl) (pv 6) pe_int (fun _ _ => rfl)) pe_str (nomark _)) (pss_cons (ps_expr (pe_bmK (K := K) rfl PySem.F.plainAttrs_list PySem.F.slot_list_append PySem.F.type_list_append mt_append (pv 2) (pa_cons (pe_k (ok_Part_init (K := K) T) (hr.mono (by decide)) T.g_Part pass0 (pa_cons (pv 4) (pa_cons (pe_callB (lenK (K := K) rfl) rfl T.n_len (by decide +kernel) (pa_cons (pe_ix (ixK (K := K) rfl) (pv 6) pe_int (fun _ _ => rfl)) pa_nil)) (pa_cons pe_bl (pa_cons (pe_callB (lenK (K := K) rfl) rfl T.n_len (by decide +kernel) (pa_cons (pv 3) pa_nil)) (pa_cons pe_int pa_nil)))))) pa_nil)))
    (pss_one (ps_set (i := 3) sc_Text_init.nd rfl (Or.inl rfl) (pe_op (addK (K := K) rfl) (pv 3) (pe_ix (ixK (K := K) rfl) (pv 6) pe_int (fun _ _ => rfl))))))
    (pss_one (ps_expr (pe_bmK (K := K) rfl PySem.F.plainAttrs_list PySem.F.slot_list_append PySem.F.type_list_append mt_append (pv 2) (pa_cons (pe_k (ok_Part_init (K := K) T) (hr.mono (by decide)) T.g_Part pass0 (pa_cons (pv 4) (pa_cons (pe_op oMul (pe_op (addK (K := K) rfl) (pe_op op_sub (pe_ix (ixK (K := K) rfl) (pv 6) pe_int (fun _ _ => rfl)) (pe_ix (ixK (K := K) rfl) (pv 6) pe_int (fun _ _ => rfl))) pe_int) (pe_ix (ixK (K := K) rfl) (pv 6) pe_int (fun _ _ => rfl))) (pa_cons pe_bl (pa_cons (pe_ix (ixK (K := K) rfl) (pv 6) pe_int (fun _ _ => rfl)) (pa_cons (pe_ix (ixK (K := K) rfl) (pv 6) pe_int (fun _ _ => rfl)) pa_nil)))))) pa_nil)))))
    (pss_cons (ps_set (i := 4) sc_Text_init.nd rfl (Or.inl rfl) (pe_op (addK (K := K) rfl) (pe_fldK (K := K) rfl (pe_ix (ixK (K := K) rfl) (pv 2) (pe_un un_neg pe_int) (fun _ _ => rfl)) (by rfl)) (pe_fldK (K := K) rfl (pe_ix (ixK (K := K) rfl) (pv 2) (pe_un un_neg pe_int) (fun _ _ => rfl)) (by rfl))))
    (pss_one (ps_if (pt_cmpR op_gt (pv 4) (pe_glob (v := .int 1000000000000000000) rfl h_MAX_SIZE_texts ⟨_, rfl⟩) (nomark _)) (pss_one ps_never)
    pss_nil))))))
    (pss_cons (ps_fld (pv 0) (pv 1) rfl)
    (pss_cons (ps_fld (pv 0) (pv 3) rfl)
    (pss_cons (ps_fld (pv 0) (pv 2) rfl)
    (pss_one (ps_fld (pv 0) (pv 4) rfl)))))))), ?_⟩
    walk_at "rd"
    refine ⟨Nat.zero_le _, fun pl hpl => ?_⟩
    walk_at "rd"
    refine ⟨two_line, fun tp htp => ?_⟩
    refine rd_gtup (SqT.of upd_same) rfl ?_
    walk_at "rd"
    have S1 : Same H (upd (upd H pl (.lst [])) tp (.tup [.str "", .int 0])) := Same.new (Same.new (Same.refl _) hpl) htp
    refine ⟨m, rs, rfl, Same.tup S1 hm, for_enumT (xs := rs) (fun i σ H' => ∃ ps v5 v6, σ = [some (.ref x), some (.ref m), some (.ref pl), some (.str (mkS (tyL (ss.take i)))), some (.int (sz (ss.take i) : Nat)), v5, v6] ∧ Same H H' ∧ H' pl = some (.lst ps) ∧ PartsAt CPart H' ps (ss.take i))
      ⟨[], _, _, by rw [emp_mk]; rfl, S1, lk_new htp upd_same, rfl, fun j s hj => by simp at hj⟩ (fun i σ H' _ ⟨_, _, _, _, S, _⟩ => Same.tup S hm) ?_ ?_⟩
    · rintro i v tu σ H' hv ⟨ps, v5, v6, rfl, S, hpl', hp⟩ hT
      obtain ⟨s', hs, a, rfl, hq⟩ := hst.at hv
      have hi : i < ss.length := (List.getElem?_eq_some_iff.mp hs).1
      have hok := ok_at ok hs
      have hpsl : ps.length < sizeLine := by rw [hp.1, List.length_take]; have := line30; omega
      walk_at "rd"
      refine rd_gtup (SqT.of upd_same) rfl ?_
      walk_at "rd"
      refine rd_dF (by omega) ?_
      walk_at "rd"
      refine ⟨_, _, s', rfl, ⟨a, rfl, Same.tup (Same.new S hT) hq⟩, hok.1, fun Hb S2 => ?_⟩
      have Sb : Same H Hb := (Same.new S hT).trans S2
      have hplb : Hb pl = some (.lst ps) := S2 _ _ (lk_new hT hpl')
      have hpb : PartsAt CPart Hb ps (ss.take i) := hp.mono ((Same.new (Same.refl _) hT).trans S2)
      have hqb : SqT K Hb a (stV s') := Same.tup Sb hq
      walk_at "rd"
      refine rd_cF rfl ?_
      walk_at "rd"
      cases s' with
      | wr w =>
        refine rd_ixT ?_ hqb rfl
        walk_at "rd"
        refine rd_dT rfl ?_
        walk_at "rd"
        refine rd_tyL (SqL.of hplb) _ ?_
        walk_at "rd"
        refine rd_ixT ?_ hqb rfl
        walk_at "rd"
        refine rd_len_str (str_small hok.1.2.1) ?_
        walk_at "rd"
        refine rd_len_str (by rw [mkS_len]; exact Nat.le_trans (tyL_take_le i) (tyL_line ok few)) ?_
        walk_at "rd"
        refine rd_mkPart (fun p dxp Hc np SC hpc => ?_)
        walk_at "rd"
        have hplc := SC _ _ hplb
        have nplp : pl ≠ p := ne_of_none hplb np
        refine rd_append hplc hpsl ?_
        have S3 := Same.mut (o := HO.lst (ps ++ [V.ref p])) (Sb.trans SC) hpl
        have E2 := @upd_same Hc pl (HO.lst (ps ++ [V.ref p]))
        have E4 := lk_ne (o := HO.lst (ps ++ [V.ref p])) nplp.symm hpc
        have E3 := hpb.snoc hs (But.at (o := HO.lst (ps ++ [V.ref p])) (But.same SC)) (fun dx fs e => by rw [hplb] at e; cases e) (v := .ref p) ⟨p, dxp, rfl, by rw [mkS_len] at E4; exact E4⟩
        revert S3 E2 E3 E4
        generalize upd Hc pl (HO.lst (ps ++ [V.ref p])) = Hd
        intro S3 E2 E4 E3
        walk_at "rd"
        refine rd_ixT ?_ (Same.tup S3 hq) rfl
        refine rd_add_str (by rw [mkS_len, len_tl, ← List.length_append]; have := tyL_line (ok_take ok (i + 1)) (by rw [List.length_take]; omega); rw [tyL_take hs] at this; exact this) ?_
        walk_at "rd"
        refine rd_ixI ?_ (SqL.of E2) (atI_last _ _)
        refine rd_fld_at E4 T.cPart T.na_Part_start partF_start ?_
        walk_at "rd"
        refine rd_ixI ?_ (SqL.of E2) (atI_last _ _)
        refine rd_fld_at E4 T.cPart T.na_Part_length partF_length ?_
        walk_at "rd"
        refine rd_dF (by have := hok.2; simp only [len1] at this; omega) ?_
        walk_at "rd"
        refine ⟨_, some (.int i), some (.ref a), ?_, S3, E2, E3⟩
        rw [show (w : Str) = mkS (tl w) from (mkS_tl w).symm, mkS_app, tyL_take hs, sz_take hs, mkS_tl]
        rfl
      | pa f l t =>
        obtain ⟨⟨o1, o2, o3, o4⟩, o5⟩ := hok
        simp only [len1] at o5
        refine rd_ixT ?_ hqb rfl
        walk_at "rd"
        refine rd_dF (by decide +kernel) ?_
        walk_at "rd"
        refine rd_tyL (SqL.of hplb) _ ?_
        walk_at "rd"
        refine rd_ixT ?_ hqb rfl
        walk_at "rd"
        refine rd_ixT ?_ hqb rfl
        walk_at "rd"
        refine rd_ixT ?_ hqb rfl
        walk_at "rd"
        refine rd_mul_int (Or.inl ⟨by omega, by omega⟩) ?_
        walk_at "rd"
        refine rd_ixT ?_ hqb rfl
        walk_at "rd"
        refine rd_ixT ?_ hqb rfl
        walk_at "rd"
        refine rd_mkPart (fun p dxp Hc np SC hpc => ?_)
        walk_at "rd"
        have hplc := SC _ _ hplb
        have nplp : pl ≠ p := ne_of_none hplb np
        refine rd_append hplc hpsl ?_
        rw [show ((l : Int) - f + 1) * t = (((l - f + 1) * t : Nat) : Int) by rw [Int.natCast_mul]; congr 1; omega] at hpc
        have S3 := Same.mut (o := HO.lst (ps ++ [V.ref p])) (Sb.trans SC) hpl
        have E2 := @upd_same Hc pl (HO.lst (ps ++ [V.ref p]))
        have E4 := lk_ne (o := HO.lst (ps ++ [V.ref p])) nplp.symm hpc
        have E3 := hpb.snoc hs (But.at (o := HO.lst (ps ++ [V.ref p])) (But.same SC)) (fun dx fs e => by rw [hplb] at e; cases e) (v := .ref p) ⟨p, dxp, rfl, E4⟩
        revert S3 E2 E3 E4
        generalize upd Hc pl (HO.lst (ps ++ [V.ref p])) = Hd
        intro S3 E2 E4 E3
        walk_at "rd"
        refine rd_ixI ?_ (SqL.of E2) (atI_last _ _)
        refine rd_fld_at E4 T.cPart T.na_Part_start partF_start ?_
        walk_at "rd"
        refine rd_ixI ?_ (SqL.of E2) (atI_last _ _)
        refine rd_fld_at E4 T.cPart T.na_Part_length partF_length ?_
        walk_at "rd"
        refine rd_dF (by omega) ?_
        walk_at "rd"
        refine ⟨_, some (.int i), some (.ref a), ?_, S3, E2, E3⟩
        rw [tyL_take hs, sz_take hs]
        simp only [ty1, List.append_nil, len1, Int.natCast_add]
        rfl
    · rintro σ H' ⟨ps, v5, v6, rfl, S, hpl', hp⟩
      rw [hst.1, List.take_length] at hp ⊢
      have hx' := S _ _ hx
      have hm' : SqT K H' m rs := Same.tup S hm
      have hst' := hst.mono S
      have npl : pl ≠ x := fun e => by subst e; rw [hx] at hpl; cases hpl
      walk_at "rd"
      refine rd_sfld_at hx' T.cText T.na_Text_made (by decide) ?_
      walk_at "rd"
      refine rd_sfld_at upd_same T.cText T.na_Text_typed fl1 ?_
      walk_at "rd"
      refine rd_sfld_at upd_same T.cText T.na_Text_parts fl2 ?_
      walk_at "rd"
      refine rd_sfld_at upd_same T.cText T.na_Text_total fl3 ?_
      have B : But x H' (upd (upd (upd (upd H' x (HO.ins CText dx (putF "made" (.ref m) []))) x (HO.ins CText dx (putF "typed" (.str (mkS (tyL ss))) (putF "made" (.ref m) [])))) x (HO.ins CText dx (putF "parts" (.ref pl) (putF "typed" (.str (mkS (tyL ss))) (putF "made" (.ref m) []))))) x (HO.ins CText dx (putF "total" (.int (sz ss : Nat)) (putF "parts" (.ref pl) (putF "typed" (.str (mkS (tyL ss))) (putF "made" (.ref m) [])))))) := But.at (But.at (But.at (But.at But.refl)))
      refine k _ ⟨ss, dx, m, pl, rs, ps⟩ (fun b o hb e => B _ _ hb (S _ _ e)) ⟨upd_same, B.tup (free1_ins hx') hm', B.steps (free1_ins hx') hst', B _ _ npl hpl', PartsAt.but B (fun dx fs e => ?_) hp, ok, few⟩ rfl rfl
      rw [hx'] at e
      cases e
      exact T.ne_Text_Part rfl
end
section
variable {P : Program} {w : World} {K : PySem.W.Frag} {mg : Str → Option Value} {base : Heap} {CText CPart CEditor CKeyReader CTextError CInvalidStep CInvalidOperation CDecodeError CNotationError CTooLong CInvalidPlace CInvalidLetter CContradiction CInvalidCount c_x_law_learned p_x_law_learned c_law p_law : Addr}
theorem ok_Text_typed_keys (T : Txt K mg CText CPart CEditor CKeyReader CTextError CInvalidStep CInvalidOperation CDecodeError CNotationError CTooLong CInvalidPlace CInvalidLetter CContradiction CInvalidCount c_x_law_learned p_x_law_learned c_law p_law) : POk P w K mg base CX0 1 CText "typed_keys" (sp_Text_typed_keys K CText CPart) := by
  refine T.d_Text_typed_keys.ok sc_Text_typed_keys (fun vs H Q E h => ?len) (fun f cdv A outer s H vs Q E hr h => ?_)
  case len => obtain ⟨a, t, rfl, _⟩ := h; rfl
  · obtain ⟨a, t, rfl, ht, k⟩ := h
    refine ⟨_, (pss_one (ps_ret (pe_fldK (K := K) rfl (pv 0) (by rfl)))), ?_⟩
    walk_at "rd"
    exact rd_fld_at ht.ins T.cText T.na_Text_typed textF_typed k
end
section
variable {P : Program} {w : World} {K : PySem.W.Frag} {mg : Str → Option Value} {base : Heap} {CText CPart CEditor CKeyReader CTextError CInvalidStep CInvalidOperation CDecodeError CNotationError CTooLong CInvalidPlace CInvalidLetter CContradiction CInvalidCount c_x_law_learned p_x_law_learned c_law p_law : Addr}
theorem ok_Text_size (T : Txt K mg CText CPart CEditor CKeyReader CTextError CInvalidStep CInvalidOperation CDecodeError CNotationError CTooLong CInvalidPlace CInvalidLetter CContradiction CInvalidCount c_x_law_learned p_x_law_learned c_law p_law) : POk P w K mg base CX0 1 CText "size" (sp_Text_size K CText CPart) := by
  refine T.d_Text_size.ok sc_Text_size (fun vs H Q E h => ?len) (fun f cdv A outer s H vs Q E hr h => ?_)
  case len => obtain ⟨a, t, rfl, _⟩ := h; rfl
  · obtain ⟨a, t, rfl, ht, k⟩ := h
    refine ⟨_, (pss_one (ps_ret (pe_fldK (K := K) rfl (pv 0) (by rfl)))), ?_⟩
    walk_at "rd"
    exact rd_fld_at ht.ins T.cText T.na_Text_total textF_total k
end
section
variable {P : Program} {w : World} {K : PySem.W.Frag} {mg : Str → Option Value} {base : Heap} {CText CPart CEditor CKeyReader CTextError CInvalidStep CInvalidOperation CDecodeError CNotationError CTooLong CInvalidPlace CInvalidLetter CContradiction CInvalidCount c_x_law_learned p_x_law_learned c_law p_law : Addr}
theorem ok_Text_check_place (T : Txt K mg CText CPart CEditor CKeyReader CTextError CInvalidStep CInvalidOperation CDecodeError CNotationError CTooLong CInvalidPlace CInvalidLetter CContradiction CInvalidCount c_x_law_learned p_x_law_learned c_law p_law) : MOk P w K mg base CX0 2 CText "check_place" (sp_Text_check_place K CText CPart) := by
  refine T.d_Text_check_place.ok sc_Text_check_place (fun vs H Q E h => ?len) (fun f cdv A outer s H vs Q E hr h => ?_)
  case len => obtain ⟨a, t, v, rfl, _⟩ := h; rfl
  · obtain ⟨a, t, v, rfl, ht, hv, hi, k⟩ := h
    refine ⟨_, (pss_one (ps_if (pt_not (pt_val (pe_g (ok_is_integer (K := K) T) (hr.mono (by decide)) pass0 (pa_cons (pv 1) (pa_cons pe_int (pa_cons (pe_op op_sub (pe_fldK (K := K) rfl (pv 0) (by rfl)) pe_int) pa_nil)))))) (pss_one ps_never)
    pss_nil)), ?_⟩
    walk_at "rd"
    refine rd_fld_at ht.ins T.cText T.na_Text_total textF_total ?_
    walk_at "rd"
    refine ⟨v, _, _, rfl, hv, ?_⟩
    rw [hi]
    walk_at "rd"
    refine rd_cF rfl ?_
    walk_at "rd"
    exact k
end
section
variable {P : Program} {w : World} {K : PySem.W.Frag} {mg : Str → Option Value} {base : Heap} {CText CPart CEditor CKeyReader CTextError CInvalidStep CInvalidOperation CDecodeError CNotationError CTooLong CInvalidPlace CInvalidLetter CContradiction CInvalidCount c_x_law_learned p_x_law_learned c_law p_law : Addr}
theorem ok_Text_key_of (T : Txt K mg CText CPart CEditor CKeyReader CTextError CInvalidStep CInvalidOperation CDecodeError CNotationError CTooLong CInvalidPlace CInvalidLetter CContradiction CInvalidCount c_x_law_learned p_x_law_learned c_law p_law) : MOk P w K mg base CX0 2 CText "key_of" (sp_Text_key_of K CText CPart) := by
  refine T.d_Text_key_of.ok sc_Text_key_of (fun vs H Q E h => ?len) (fun f cdv A outer s H vs Q E hr h => ?_)
  case len => obtain ⟨a, t, p, k, rfl, _⟩ := h; rfl
  · obtain ⟨a, t, p, k, rfl, ht, hk, q⟩ := h
    have hp : p < sz t.ss := by rw [← ks_len ht.ok]; exact (List.getElem?_eq_some_iff.mp hk).1
    refine ⟨_, (pss_cons (ps_set (i := 2) sc_Text_key_of.nd rfl (Or.inl rfl) (pe_op op_sub (pe_callB (lenK (K := K) rfl) rfl T.n_len (by decide +kernel) (pa_cons (pe_fldK (K := K) rfl (pv 0) (by rfl)) pa_nil)) pe_int))
    (pss_cons (ps_while PassesOwn.never (pt_cmpR op_ge (pv 2) pe_int (nomark _)) (pss_cons (ps_set (i := 3) sc_Text_key_of.nd rfl (Or.inl rfl) (pe_ix (ixK (K := K) rfl) (pe_fldK (K := K) rfl (pv 0) (by rfl)) (pv 2) (fun _ _ => rfl)))
    (pss_cons (ps_if (pt_cmpR op_ge (pv 1) (pe_fldK (K := K) rfl (pv 3) (by rfl)) (nomark _)) (pss_cons (ps_set (i := 1) sc_Text_key_of.nd rfl (Or.inl rfl) (pe_m (pv 3) T.cPart (ok_Part_source (K := K) T) (hr.mono (by decide)) pass0 (pa_cons (pv 1) pa_nil)))
    (pss_one (ps_if (pt_val (pe_fldK (K := K) rfl (pv 3) (by rfl))) (pss_one ps_break)
    pss_nil)))
    pss_nil)
    (pss_one (ps_aug (i := 2) sc_Text_key_of.nd rfl (Or.inl rfl) pe_int ip_sub)))))
    (pss_one (ps_ret (pv 1))))), ?_⟩
    walk_at "rd"
    refine rd_fld_at ht.ins T.cText T.na_Text_parts textF_parts ?_
    walk_at "rd"
    refine rd_len_lst (SqL.of ht.pls) ?_
    walk_at "rd"
    refine rd_while (fun j σ H' => ∃ (p' : Nat), ∃ v3, σ = [some (.ref a), some (.int p'), some (.int ((j : Int) - 1)), v3] ∧ H = H' ∧ j ≤ t.ss.length ∧ p' < sz (t.ss.take j) ∧ (ks t.ss)[p']? = some k) ⟨t.ss.length, p, none, by rw [ht.prt.1]; rfl, rfl, Nat.le_refl _, by rw [List.take_length]; exact hp, hk⟩ ?_
    rintro j σ H' ⟨p', v3, rfl, rfl, hj, hp', hk'⟩
    have j0 : 0 < j := by
      rcases Nat.eq_zero_or_pos j with e | e
      · subst e; simp [sz] at hp'
      · exact e
    obtain ⟨i, rfl⟩ : ∃ i, j = i + 1 := ⟨j - 1, by omega⟩
    have hs : t.ss[i]? = some (t.ss[i]'(by omega)) := List.getElem?_eq_getElem _
    have hsz := sz_take hs
    have ei : (((i + 1 : Nat) : Int) - 1) = (i : Nat) := by omega
    rw [ei]
    obtain ⟨v, hv, hpart⟩ := ht.prt.2 i _ hs
    have wf := (ok_at ht.ok hs).1
    walk_at "rd"
    refine rd_dT (by omega) ⟨fun σ' H' => ∃ m', m' < i + 1 ∧ ∃ (p' : Nat), ∃ v3, σ' = [some (.ref a), some (.int p'), some (.int ((m' : Int) - 1)), v3] ∧ H = H' ∧ m' ≤ t.ss.length ∧ p' < sz (t.ss.take m') ∧ (ks t.ss)[p']? = some k, fun σ' H' z => z, ?_⟩
    walk_at "rd"
    refine rd_fld_at ht.ins T.cText T.na_Text_parts textF_parts ?_
    walk_at "rd"
    refine rd_ixLn (SqL.of ht.pls) hv ?_
    walk_at "rd"
    cases e : t.ss[i]'(by omega) with
    | wr w =>
      rw [e] at hpart hs hsz wf
      obtain ⟨pp, dp, rfl, hP⟩ := hpart
      refine rd_fld_at hP T.cPart T.na_Part_start partF_start ?_
      walk_at "rd"
      refine rd_ite (fun h1 => ?_) (fun h1 => ?_)
      · walk_at "rd"
        refine rd_m_at ⟨_, _, hP, partF_no (by decide +kernel)⟩ ?_
        walk_at "rd"
        refine ⟨pp, dp, _, _, _, _, _, _, rfl, hP, fun z => (by cases z), ?_⟩
        rw [if_pos rfl]
        walk_at "rd"
        refine rd_fld_at hP T.cPart T.na_Part_is_typed partF_typed ?_
        walk_at "rd"
        refine rd_cT rfl ?_
        walk_at "rd"
        have := ks_wr ht.ok hs (p := p') (by omega) hp'
        rw [hk'] at this
        rw [show ((tyL (t.ss.take i)).length : Int) + (p' : Int) - (sz (t.ss.take i) : Nat) = (k : Nat) by cases this; omega]
        exact q
      · walk_at "rd"
        exact ⟨i, by omega, p', _, rfl, rfl, by omega, by omega, hk'⟩
    | pa f l u =>
      rw [e] at hpart hs hsz wf
      obtain ⟨pp, dp, rfl, hP⟩ := hpart
      refine rd_fld_at hP T.cPart T.na_Part_start partF_start ?_
      walk_at "rd"
      refine rd_ite (fun h1 => ?_) (fun h1 => ?_)
      · walk_at "rd"
        refine rd_m_at ⟨_, _, hP, partF_no (by decide +kernel)⟩ ?_
        walk_at "rd"
        refine ⟨pp, dp, _, _, _, _, _, _, rfl, hP, fun _ => (by have := wf.1; omega), ?_⟩
        rw [if_neg Bool.false_ne_true]
        walk_at "rd"
        refine rd_fld_at hP T.cPart T.na_Part_is_typed partF_typed ?_
        walk_at "rd"
        refine rd_cF rfl ?_
        walk_at "rd"
        have := ks_pa ht.ok hs (p := p') (by omega) hp'
        have fl := wf.1
        refine ⟨i, by omega, f + (p' - sz (t.ss.take i)) % (l - f + 1), some (.ref pp), ?_, rfl, by omega, this.1, by rw [← this.2]; exact hk'⟩
        rw [show ((f : Nat) : Int) + ((p' : Nat) - (sz (t.ss.take i) : Nat) : Int) % ((l : Nat) - (f : Nat) + 1 : Int) = ((f + (p' - sz (t.ss.take i)) % (l - f + 1) : Nat) : Int) by
          rw [Int.natCast_add, Int.natCast_emod, Int.natCast_sub (by omega), Int.natCast_add, Int.natCast_sub fl]; rfl]
        rfl
      · walk_at "rd"
        exact ⟨i, by omega, p', _, rfl, rfl, by omega, by omega, hk'⟩
end
section
variable {P : Program} {w : World} {K : PySem.W.Frag} {mg : Str → Option Value} {base : Heap} {CText CPart CEditor CKeyReader CTextError CInvalidStep CInvalidOperation CDecodeError CNotationError CTooLong CInvalidPlace CInvalidLetter CContradiction CInvalidCount c_x_law_learned p_x_law_learned c_law p_law : Addr}
theorem ok_Text_call (T : Txt K mg CText CPart CEditor CKeyReader CTextError CInvalidStep CInvalidOperation CDecodeError CNotationError CTooLong CInvalidPlace CInvalidLetter CContradiction CInvalidCount c_x_law_learned p_x_law_learned c_law p_law) : XOk P w K mg base CX0 3 (CallO K CText) (sp_Text_call K CText CPart) := by
  refine T.d_Text_call.ok sc_Text_call (fun vs H Q E h => ?len) (fun f cdv A outer s H vs Q E hr h => ?_)
  case len => obtain ⟨a, t, p, k, rfl, _⟩ := h; rfl
  · obtain ⟨a, t, p, k, rfl, ht, hk, q⟩ := h
    have hp : p < sz t.ss := by rw [← ks_len ht.ok]; exact (List.getElem?_eq_some_iff.mp hk).1
    refine ⟨_, (pss_cons (ps_expr (pe_m (pv 0) T.cText (ok_Text_check_place (K := K) T) (hr.mono (by decide)) pass0 (pa_cons (pv 1) pa_nil)))
    (pss_one (ps_ret (pe_m (pv 0) T.cText (ok_Text_key_of (K := K) T) (hr.mono (by decide)) pass0 (pa_cons (pv 1) pa_nil))))), ?_⟩
    walk_at "rd"
    refine rd_m_at ht.insM ?_
    walk_at "rd"
    refine ⟨a, t, _, rfl, ht, trivial, decide_eq_true (by omega), ?_⟩
    walk_at "rd"
    refine rd_m_at ht.insM ?_
    walk_at "rd"
    exact ⟨a, t, p, k, rfl, ht, hk, q⟩
end
local macro_rules | `(tactic| walk_at "rd1_Fr") => `(tactic| first
  | with_reducible refine rd_seq ?_ | with_reducible refine rd_asg ?_ | with_reducible refine rd_name ?_ | ((with_reducible refine' rd_var ?k1 ?_); (case k1 => rfl)) | with_reducible refine rd_C ?_ | with_reducible refine rd_op ?_ | with_reducible refine rd_cons ?_ | with_reducible refine rd_nil ?_
  | with_reducible refine rd_test ?_ | with_reducible refine rd_tB ?_ | with_reducible refine rd_bl ?_ | with_reducible refine rd_ifS ?_ | with_reducible refine rd_and ?_ | with_reducible refine rd_or ?_ | with_reducible refine rd_not ?_ | with_reducible refine rd_andV ?_ | with_reducible refine rd_orV ?_ | with_reducible refine rd_notV ?_ | with_reducible refine rd_chain ?_
  | with_reducible refine rd_if ?_ | with_reducible refine rd_g ?_ | with_reducible refine rd_m ?_ | with_reducible refine rd_star ?_ | with_reducible refine rd_tup ?_ | with_reducible refine rd_lst ?_ | with_reducible refine rd_fld ?_ | with_reducible refine rd_cb ?_ | with_reducible refine rd_un ?_ | with_reducible refine rd_makeR ?_ | with_reducible refine rd_makeS ?_
  | with_reducible refine rd_bm ?_ | with_reducible refine rd_bm0 ?_ | with_reducible refine rd_next ?_ | with_reducible refine rd_break ?_ | with_reducible refine rd_cont ?_ | with_reducible refine rd_ret ?_ | with_reducible refine rd_retN ?_ | with_reducible refine rd_drop ?_ | with_reducible refine rd_gcons ?_ | with_reducible refine rd_gnil ?_ | with_reducible refine rd_gsub ?_
  | ((with_reducible refine' rd_aug ?k1 ?_); (case k1 => rfl)) | with_reducible refine rd_ipI ?_ | with_reducible refine rd_sfld ?_ | with_reducible refine rd_for ?_ | with_reducible refine rd_iStr ?_ | with_reducible refine rd_iList ?_ | with_reducible refine rd_iTup ?_ | with_reducible refine rd_iRng1 ?_ | with_reducible refine rd_iRng2 ?_ | with_reducible refine rd_iEnumT ?_ | with_reducible refine rd_match ?_ | with_reducible refine rd_par ?_ | with_reducible refine rd_two ?_
  | with_reducible refine rd_sl ?_ | with_reducible refine rd_noPart ?_ | with_reducible refine rd_part ?_ | with_reducible refine rd_pint ?_ | with_reducible refine rd_listRg ?_ | with_reducible refine rd_rg1 ?_ | with_reducible refine rd_rg2 ?_ | with_reducible refine rd_ixO ?_ | with_reducible refine rd_U ?_ | with_reducible refine rd_int_int ?_ | with_reducible refine rd_int_bl ?_ | with_reducible refine rd_min2 ?_ | with_reducible refine rd_max2 ?_ | with_reducible refine rd_in_sign ?_ | with_reducible refine rd_isN ?_ | with_reducible refine rd_notN ?_
  | with_reducible refine rd_lc ?_ | with_reducible refine rd_yes ?_ | with_reducible refine rd_prop ?_ | with_reducible refine rd_cmeth ?_ | with_reducible refine rd_o ?_ | with_reducible refine rd_add_int ?_ | with_reducible refine rd_sub ?_ | with_reducible refine rd_eq_int ?_ | with_reducible refine rd_eq_str ?_ | with_reducible refine rd_eq_bl ?_ | with_reducible refine rd_ne_int ?_ | with_reducible refine rd_ne_str ?_ | with_reducible refine rd_ne_bl ?_ | with_reducible refine rd_I0 ?_
  | with_reducible refine rd_isi_int_int ?_ | with_reducible refine rd_isi_int_bool ?_ | with_reducible refine rd_isi_int_str ?_ | with_reducible refine rd_isi_int_list ?_ | with_reducible refine rd_isi_int_tuple ?_ | with_reducible refine rd_isi_bl_int ?_ | with_reducible refine rd_isi_bl_bool ?_ | with_reducible refine rd_isi_bl_str ?_ | with_reducible refine rd_isi_bl_list ?_ | with_reducible refine rd_isi_bl_tuple ?_ | with_reducible refine rd_isi_str_int ?_ | with_reducible refine rd_isi_str_bool ?_ | with_reducible refine rd_isi_str_str ?_ | with_reducible refine rd_isi_str_list ?_ | with_reducible refine rd_isi_str_tuple ?_ | with_reducible refine rd_isi_non_int ?_ | with_reducible refine rd_isi_non_bool ?_ | with_reducible refine rd_isi_non_str ?_ | with_reducible refine rd_isi_non_list ?_ | with_reducible refine rd_isi_non_tuple ?_)
local macro_rules | `(tactic| walk_at "rd_Fr") => `(tactic| repeat walk_at "rd1_Fr")
local macro_rules | `(tactic| walk_at "same_Fr") => `(tactic| first | assumption | exact Same.refl _ | (refine Same.new ?_ (by assumption); walk_at "same_Fr") | (refine Same.mut ?_ (by assumption); walk_at "same_Fr") | (refine Same.trans ?_ (by assumption); walk_at "same_Fr"))
section
variable {P : Program} {w : World} {K : PySem.W.Frag} {mg : Str → Option Value} {base : Heap} {CText CPart CEditor CKeyReader CTextError CInvalidStep CInvalidOperation CDecodeError CNotationError CTooLong CInvalidPlace CInvalidLetter CContradiction CInvalidCount c_x_law_learned p_x_law_learned c_law p_law : Addr}
theorem ok_x_law_dice (T : Txt K mg CText CPart CEditor CKeyReader CTextError CInvalidStep CInvalidOperation CDecodeError CNotationError CTooLong CInvalidPlace CInvalidLetter CContradiction CInvalidCount c_x_law_learned p_x_law_learned c_law p_law) : GOk P w K mg base CX0 1 "_law_dice" (sp_x_law_dice K) := by
  refine T.d_x_law_dice.ok sc_x_law_dice (fun vs H Q E h => ?len) (fun f cdv A outer s H vs Q E hr h => ?_)
  case len => obtain ⟨a, sc, rfl, _⟩ := h; rfl
  · obtain ⟨a, sc, rfl, ha, k⟩ := h
    refine ⟨_, (pss_cons (ps_set (i := 1) sc_x_law_dice.nd rfl (Or.inl rfl) pe_int)
    (pss_cons (ps_for PassesOwn.never rfl (pi_listK (K := K) rfl (pv 0)) (pg_name (i := 2) sc_x_law_dice.nd rfl (Or.inl rfl)) (pss_one (ps_set (i := 1) sc_x_law_dice.nd rfl (Or.inl rfl) (pe_op op_mod (pe_callTy cInt rfl T.n_int (by decide +kernel) (pa_cons (pe_op (addK (K := K) rfl) (pe_op (addK (K := K) rfl) (pe_op oMul (pv 1) pe_int) (pe_op oMul (pe_op op_mod (pe_callTy cInt rfl T.n_int (by decide +kernel) (pa_cons (pv 2) pa_nil)) pe_int) pe_int)) pe_int) pa_nil)) pe_int))))
    (pss_one (ps_ret (pe_lst (pa_cons (pv 0) (pa_cons pe_int (pa_cons (pe_op oMul (pv 1) (pe_callTy cInt rfl T.n_int (by decide +kernel) (pa_cons (pe_cmpR op_gt (pe_callB (lenK (K := K) rfl) rfl T.n_len (by decide +kernel) (pa_cons (pv 0) pa_nil)) pe_int (nomark _)) pa_nil))) (pa_cons pe_int pa_nil))))))))), ?_⟩
    refine rd_startE (show start N_x_law_dice [.ref a] = [some (.ref a), none, none] from rfl) ?_
    walk_at "rd_Fr"
    refine ⟨_, rfl, ⟨_, ha⟩, for_list (xs := sc.map V.int) (fun i σ H' => ∃ m : Int, ∃ v2, σ = [some (.ref a), some (.int m), v2] ∧ H' = H ∧ 0 ≤ m ∧ m < 2147483647) ⟨0, _, rfl, rfl, by omega, by omega⟩ (fun i σ H' _ ⟨_, _, _, e, _⟩ => by rw [e]; exact ha) ?_ ?_⟩
    · rintro i v σ H' hv ⟨m, v2, rfl, rfl, m0, m1⟩
      rw [List.getElem?_map] at hv
      obtain ⟨c, hc, rfl⟩ := Option.map_eq_some_iff.mp hv
      walk_at "rd_Fr"
      refine rd_mul_int (.inr ⟨by decide, by decide⟩) ?_
      walk_at "rd_Fr"
      refine rd_I (by decide) ?_
      walk_at "rd_Fr"
      refine rd_mul_int (.inr ⟨by decide, by decide⟩) ?_
      walk_at "rd_Fr"
      refine rd_I (by decide) ?_
      walk_at "rd_Fr"
      exact ⟨_, _, rfl, rfl, Int.emod_nonneg _ (by decide), Int.emod_lt_of_pos _ (by decide)⟩
    · rintro σ H' ⟨m, v2, rfl, rfl, m0, m1⟩
      walk_at "rd_Fr"
      refine rd_len_lst ha ?_
      walk_at "rd_Fr"
      refine rd_mul_int (.inl ⟨by omega, by omega⟩) ?_
      walk_at "rd_Fr"
      refine ⟨by rw [sizeLine_eq]; show 4 ≤ 16777216; decide, fun r n1 => ?_⟩
      exact k r _ (Same.new (Same.refl _) n1) n1 ⟨a, sc, 0, _, _, upd_same, (Same.new (Same.refl _) n1).seq ha⟩
end
section
variable {P : Program} {w : World} {K : PySem.W.Frag} {mg : Str → Option Value} {base : Heap} {CText CPart CEditor CKeyReader CTextError CInvalidStep CInvalidOperation CDecodeError CNotationError CTooLong CInvalidPlace CInvalidLetter CContradiction CInvalidCount c_x_law_learned p_x_law_learned c_law p_law : Addr}
theorem ok_x_law_next (T : Txt K mg CText CPart CEditor CKeyReader CTextError CInvalidStep CInvalidOperation CDecodeError CNotationError CTooLong CInvalidPlace CInvalidLetter CContradiction CInvalidCount c_x_law_learned p_x_law_learned c_law p_law) : GOk P w K mg base CX0 1 "_law_next" (sp_x_law_next K) := by
  refine T.d_x_law_next.ok sc_x_law_next (fun vs H Q E h => ?len) (fun f cdv A outer s H vs Q E hr h => ?_)
  case len => obtain ⟨r, many, rfl, _⟩ := h; rfl
  · obtain ⟨r, many, rfl, ⟨sa, sc, i, sd, e, hr', hsc⟩, m1, m2, k⟩ := h
    refine ⟨_, (pss_cons (ps_if (pt_cmpR op_gt (pe_ix (ixK (K := K) rfl) (pv 0) pe_int (fun _ _ => rfl)) pe_int (nomark _)) (pss_cons (ps_set (i := 2) sc_x_law_next.nd rfl (Or.inl rfl) (pe_op op_mod (pe_callTy cInt rfl T.n_int (by decide +kernel) (pa_cons (pe_ix (ixK (K := K) rfl) (pv 0) pe_int (fun _ _ => rfl)) pa_nil)) (pv 1)))
    (pss_cons (ps_asg (pe_op op_fdivW (pe_ix (ixK (K := K) rfl) (pv 0) pe_int (fun _ _ => rfl)) (pv 1)) (pg_sub (pv 0) pe_int set_list))
    (pss_one (ps_ret (pv 2)))))
    pss_nil)
    (pss_cons (ps_asg (pe_op (addK (K := K) rfl) (pe_ix (ixK (K := K) rfl) (pv 0) pe_int (fun _ _ => rfl)) pe_int) (pg_sub (pv 0) pe_int set_list))
    (pss_cons (ps_if (pt_cmpR op_le (pe_ix (ixK (K := K) rfl) (pv 0) pe_int (fun _ _ => rfl)) (pe_callB (lenK (K := K) rfl) rfl T.n_len (by decide +kernel) (pa_cons (pe_ix (ixK (K := K) rfl) (pv 0) pe_int (fun _ _ => rfl)) pa_nil)) (nomark _)) (pss_cons (ps_set (i := 3) sc_x_law_next.nd rfl (Or.inl rfl) (pe_ix (ixK (K := K) rfl) (pe_ix (ixK (K := K) rfl) (pv 0) pe_int (fun _ _ => rfl)) (pe_op op_sub (pe_ix (ixK (K := K) rfl) (pv 0) pe_int (fun _ _ => rfl)) pe_int) (fun _ _ => rfl)))
    (pss_cons (ps_asg (pe_ifExp (pt_cmpR op_ge (pv 3) (pe_op op_pow pe_int pe_int) (nomark _)) (pe_op op_fdivW (pv 3) (pv 1)) pe_int) (pg_sub (pv 0) pe_int set_list))
    (pss_one (ps_ret (pe_op op_mod (pe_callTy cInt rfl T.n_int (by decide +kernel) (pa_cons (pv 3) pa_nil)) (pv 1))))))
    pss_nil)
    (pss_cons (ps_asg (pe_op op_mod (pe_callTy cInt rfl T.n_int (by decide +kernel) (pa_cons (pe_op oMul (pe_ix (ixK (K := K) rfl) (pv 0) pe_int (fun _ _ => rfl)) pe_int) pa_nil)) pe_int) (pg_sub (pv 0) pe_int set_list))
    (pss_one (ps_ret (pe_op op_mod (pe_callTy cInt rfl T.n_int (by decide +kernel) (pa_cons (pe_op op_fdiv (pe_ix (ixK (K := K) rfl) (pv 0) pe_int (fun _ _ => rfl)) pe_int) pa_nil)) (pv 1)))))))), ?_⟩
    walk_at "rd_Fr"
    refine rd_ixI ?_ (SqL.of hr') rfl
    walk_at "rd_Fr"
    refine rd_ite (fun h1 => ?_) (fun h1 => ?_)
    · walk_at "rd_Fr"
      refine rd_ixI ?_ (SqL.of hr') rfl
      walk_at "rd_Fr"
      refine rd_I (by omega) ?_
      walk_at "rd_Fr"
      refine rd_ixI ?_ (SqL.of hr') rfl
      walk_at "rd_Fr"
      refine rd_I (wide_div (b := 62) (by omega) (by omega) (by decide) (by decide)) ?_
      walk_at "rd_Fr"
      refine rd_setL (j := 3) hr' rfl ?_
      walk_at "rd_Fr"
      obtain ⟨a1, a2, a3⟩ := row_put (j := i) (s' := sd) (e' := e / (many : Nat)) Kp.refl hr' hsc
      exact take_fin m1 e fun n hn => k n _ hn a1 ⟨sa, sc, _, _, _, a2, a3⟩
    · walk_at "rd_Fr"
      refine rd_ixI ?_ (SqL.of hr') rfl
      walk_at "rd_Fr"
      refine rd_setL (j := 1) hr' rfl ?_
      walk_at "rd_Fr"
      obtain ⟨a1, a2, a3⟩ := row_put (j := i + 1) (s' := sd) (e' := e) Kp.refl hr' hsc
      rw [show ([V.ref sa, .int i, .int sd, .int e].set 1 (.int ((i : Int) + 1))) = [V.ref sa, .int (i + 1 : Nat), .int sd, .int e] from rfl]
      revert a1 a2 a3
      generalize upd H r (.lst [V.ref sa, .int (i + 1 : Nat), .int sd, .int e]) = Ha
      intro a1 a2 a3
      refine rd_ixI ?_ (SqL.of a2) rfl
      walk_at "rd_Fr"
      refine rd_ixI ?_ (SqL.of a2) rfl
      walk_at "rd_Fr"
      refine rd_len_lst a3 ?_
      walk_at "rd_Fr"
      rw [List.length_map]
      refine rd_ite (fun h2 => ?_) (fun h2 => ?_)
      · walk_at "rd_Fr"
        refine rd_ixI ?_ (SqL.of a2) rfl
        walk_at "rd_Fr"
        refine rd_ixI ?_ (SqL.of a2) rfl
        walk_at "rd_Fr"
        rw [show ((i + 1 : Nat) : Int) - 1 = (i : Nat) by omega]
        have hi : i < sc.length := by omega
        refine rd_ixLn a3 (v := .int sc[i]) (by rw [List.getElem?_map, List.getElem?_eq_getElem hi]; rfl) ?_
        walk_at "rd_Fr"
        generalize sc[i] = cell
        refine rd_I ⟨by decide, by decide, by decide⟩ ?_
        walk_at "rd_Fr"
        refine rd_ite (fun h3 => ?_) (fun h3 => ?_)
        · walk_at "rd_Fr"
          refine rd_I (wide_div (b := 62) (by omega) (by omega) (by decide) (by decide)) ?_
          walk_at "rd_Fr"
          refine rd_setL (j := 3) a2 rfl ?_
          walk_at "rd_Fr"
          refine rd_I (by omega) ?_
          obtain ⟨c1, c2, c3⟩ := row_put (j := i + 1) (s' := sd) (e' := cell / (many : Nat)) a1 a2 a3
          exact take_fin m1 _ fun n hn => k n _ hn c1 ⟨sa, sc, _, _, _, c2, c3⟩
        · walk_at "rd_Fr"
          refine rd_setL (j := 3) a2 rfl ?_
          walk_at "rd_Fr"
          refine rd_I (by omega) ?_
          obtain ⟨c1, c2, c3⟩ := row_put (j := i + 1) (s' := sd) (e' := 0) a1 a2 a3
          exact take_fin m1 _ fun n hn => k n _ hn c1 ⟨sa, sc, _, _, _, c2, c3⟩
      · walk_at "rd_Fr"
        refine rd_ixI ?_ (SqL.of a2) rfl
        walk_at "rd_Fr"
        refine rd_mul_int (.inr ⟨by decide, by decide⟩) ?_
        walk_at "rd_Fr"
        refine rd_I (by decide) ?_
        walk_at "rd_Fr"
        refine rd_setL (j := 2) a2 rfl ?_
        walk_at "rd_Fr"
        obtain ⟨b1, b2, b3⟩ := row_put (j := i + 1) (s' := (sd * 48271) % 2147483647) (e' := e) a1 a2 a3
        refine rd_ixI ?_ (SqL.of b2) rfl
        walk_at "rd_Fr"
        refine rd_I ⟨by decide, by decide⟩ ?_
        walk_at "rd_Fr"
        refine rd_I (by omega) ?_
        exact take_fin m1 _ fun n hn => k n _ hn b1 ⟨sa, sc, _, _, _, b2, b3⟩
end
section
variable {P : Program} {w : World} {K : PySem.W.Frag} {mg : Str → Option Value} {base : Heap} {CText CPart CEditor CKeyReader CTextError CInvalidStep CInvalidOperation CDecodeError CNotationError CTooLong CInvalidPlace CInvalidLetter CContradiction CInvalidCount c_x_law_learned p_x_law_learned c_law p_law : Addr}
theorem ok_x_law_pick (T : Txt K mg CText CPart CEditor CKeyReader CTextError CInvalidStep CInvalidOperation CDecodeError CNotationError CTooLong CInvalidPlace CInvalidLetter CContradiction CInvalidCount c_x_law_learned p_x_law_learned c_law p_law) : GOk P w K mg base CX0 2 "_law_pick" (sp_x_law_pick K) := by
  refine T.d_x_law_pick.ok sc_x_law_pick (fun vs H Q E h => ?len) (fun f cdv A outer s H vs Q E hr h => ?_)
  case len => obtain ⟨r, l, xs, rfl, _⟩ := h; rfl
  · obtain ⟨r, l, xs, rfl, row, hx, hk, h1, h2, k⟩ := h
    refine ⟨_, (pss_one (ps_ret (pe_ix (ixK (K := K) rfl) (pv 1) (pe_g (ok_x_law_next (K := K) T) (hr.mono (by decide)) pass0 (pa_cons (pv 0) (pa_cons (pe_callB (lenK (K := K) rfl) rfl T.n_len (by decide +kernel) (pa_cons (pv 1) pa_nil)) pa_nil))) (fun _ _ => rfl)))), ?_⟩
    refine rd_startE (show start N_x_law_pick [.ref r, .ref l] = [some (.ref r), some (.ref l)] from rfl) ?_
    walk_at "rd_Fr"
    refine rd_len_lst hx ?_
    walk_at "rd_Fr"
    refine rd_nextD row (by omega) (by rw [sizeLine_eq] at h2; omega) fun n H1 hn k1 row1 => ?_
    have hn' : n < xs.length := by omega
    refine rd_ixLn (hk hx _ k1) (List.getElem?_eq_getElem hn') ?_
    exact k n _ H1 (List.getElem?_eq_getElem hn') k1 row1
end
local macro_rules | `(tactic| walk_at "zl") => `(tactic| (rw [sizeLine_eq]; first | decide | (simp only [List.length_cons, List.length_nil]; omega) | omega))
local macro_rules | `(tactic| walk_at "sm") => `(tactic| first | exact Same.refl _ | assumption | ((with_reducible refine' Same.trans ?sx ?sy); (case sy => assumption); (case sx => walk_at "sm")))
local macro_rules | `(tactic| walk_at "kp") => `(tactic| first | exact Kp.refl | assumption | ((with_reducible refine' Kp.trans ?kx ?ky); (case ky => assumption); (case kx => walk_at "kp")) | ((with_reducible refine' Kp.trans ?kx (Kp.same ?ky)); (case ky => assumption); (case kx => walk_at "kp")))
local macro_rules | `(tactic| walk_at "tx") => `(tactic| first | assumption | ((with_reducible refine' TX.kp ?tx1 ?tx2); (case tx1 => assumption); (case tx2 => walk_at "kp")))
local macro_rules | `(tactic| walk_at "ts") => `(tactic| first | assumption | ((with_reducible refine' TS'.kp ?tx1 ?tx2); (case tx1 => assumption); (case tx2 => walk_at "kp")) | ((with_reducible refine' ts_nil ?tx1); (case tx1 => assumption)))
local macro_rules | `(tactic| walk_at "sx") => `(tactic| first | assumption | ((with_reducible refine' SX.kp ?tx1 ?tx2); (case tx1 => assumption); (case tx2 => walk_at "kp")) | ((with_reducible refine' TS'.sx ?tx1); (case tx1 => walk_at "ts")))
local macro_rules | `(tactic| walk_at "row") => `(tactic| first | assumption | ((with_reducible refine' RowAt.mono ?tx1 ?tx2); (case tx1 => assumption); (case tx2 => walk_at "sm")))
local macro_rules | `(tactic| walk_at "ls") => `(tactic| first | assumption | ((with_reducible refine' kp_natV ?tx1 ?tx2); (case tx1 => assumption); (case tx2 => walk_at "kp")) | ((with_reducible refine' kp_sgV ?tx1 ?tx2); (case tx1 => assumption); (case tx2 => walk_at "kp")) | ((refine' Same.lk ?tx1 ?tx2); (case tx1 => assumption); (case tx2 => walk_at "sm")))
local macro_rules | `(tactic| walk_at "om") => `(tactic| first | omega | with_reducible assumption)
local macro_rules | `(tactic| walk_at "rd1") => `(tactic| first
  | with_reducible refine rd_cons ?_ | ((with_reducible refine' rd_var ?k1 ?_); (case k1 => rfl)) | with_reducible refine rd_C ?_ | with_reducible refine rd_nil ?_ | with_reducible refine rd_op ?_ | with_reducible refine rd_g ?_
  | ((with_reducible refine' rd_nameE ?k1 ?_); (case k1 => (dsimp only [List.set_cons_zero, List.set_cons_succ]; exact rfl))) | with_reducible refine rd_asg ?_ | with_reducible refine rd_seq ?_ | with_reducible refine rd_andrfl ?_ | with_reducible refine rd_prop ?_ | with_reducible refine rd_cb ?_ | with_reducible refine rd_test ?_ | with_reducible refine rd_bl ?_ | with_reducible refine rd_ifS ?_ | with_reducible refine rd_next ?_
  | with_reducible refine rd_tupN ?_ | with_reducible refine rd_lstN ?_ | with_reducible refine rd_add_int ?_ | with_reducible refine rd_sub ?_ | with_reducible refine rd_tB ?_ | with_reducible refine rd_not ?_ | with_reducible refine rd_and ?_ | with_reducible refine rd_or ?_ | with_reducible refine rd_ret ?_ | with_reducible refine rd_cmeth ?_ | with_reducible refine rd_o ?_ | with_reducible refine rd_I0 ?_
  | ((with_reducible show @Eq (Option HO) _ Option.none → _); intro) | with_reducible refine rd_m1 ?_ | with_reducible refine rd_exStr ?_ | ((with_reducible refine' rd_iNat ?k1 ?_); (case k1 => walk_at "ls"))
  | ((with_reducible refine' rd_taken ?k1 ?k2 ?k3 ?_); (case k1 => walk_at "row"); (case k2 => walk_at "om"); (case k3 => walk_at "om"))
  | ((with_reducible refine' rd_word ?k1 ?k2 ?k3 ?_); (case k1 => walk_at "row"); (case k2 => walk_at "om"); (case k3 => walk_at "om"))
  | ((with_reducible refine' rd_stepsL ?k1 ?k2 ?k3 ?k4 ?k5 ?_); (case k1 => walk_at "row"); (case k2 => walk_at "om"); (case k3 => walk_at "om"); (case k4 => walk_at "om"); (case k5 => walk_at "om"))
  | ((with_reducible refine' rd_listS ?k1 ?_); (case k1 => walk_at "ts"))
  | ((with_reducible refine' rd_ofSteps ?k1 ?k2 ?k3 ?_); (case k1 => walk_at "sx"); (case k2 => walk_at "om"); (case k3 => walk_at "om"))
  | ((with_reducible refine' rd_pSize ?k1 ?_); (case k1 => walk_at "tx"))
  | ((with_reducible refine' rd_pTyped ?k1 ?_); (case k1 => walk_at "tx"))
  | ((with_reducible refine' rd_pSteps ?k1 ?_); (case k1 => walk_at "tx"))
  | ((with_reducible refine' rd_oCall ?k1 ?k2 ?k3 ?_); (case k1 => walk_at "tx"); (case k2 => walk_at "om"); (case k3 => walk_at "om"))
  | ((with_reducible refine' rd_oItem ?k1 ?k2 ?k3 ?_); (case k1 => walk_at "tx"); (case k2 => walk_at "om"); (case k3 => walk_at "om"))
  | ((with_reducible refine' rd_opAdd ?k1 ?k2 ?k3 ?k4 ?_); (case k1 => walk_at "tx"); (case k2 => walk_at "tx"); (case k3 => walk_at "om"); (case k4 => walk_at "om"))
  | ((with_reducible refine' rd_opMul ?k1 ?k2 ?k3 ?k4 ?k5 ?_); (case k1 => walk_at "tx"); (case k2 => walk_at "om"); (case k3 => walk_at "om"); (case k4 => walk_at "om"); (case k5 => walk_at "om"))
  | ((with_reducible refine' rd_opEq ?k1 ?k2 ?_); (case k1 => walk_at "tx"); (case k2 => walk_at "tx"))
  | ((with_reducible refine' rd_opEqT ?k1 ?k2 ?_); (case k1 => walk_at "tx"); (case k2 => walk_at "ts"))
  | ((with_reducible refine' rd_opNe ?k1 ?k2 ?_); (case k1 => walk_at "tx"); (case k2 => walk_at "tx"))
  | ((with_reducible refine' rd_mTx ?k1 ?k2 ?_); (case k1 => walk_at "tx"); (case k2 => decide +kernel))
  | ((with_reducible refine' rd_mRetyped ?k1 ?k2 ?k3 ?_); (case k1 => walk_at "tx"); (case k2 => walk_at "om"); (case k3 => walk_at "om"))
  | ((with_reducible refine' rd_eqTT ?k1 ?k2 ?k3 ?k4 ?_); (case k1 => walk_at "ts"); (case k2 => walk_at "ts"); (case k3 => first | assumption | trivial); (case k4 => first | assumption | trivial))
  | ((with_reducible refine' rd_neTT ?k1 ?k2 ?k3 ?k4 ?_); (case k1 => walk_at "ts"); (case k2 => walk_at "ts"); (case k3 => first | assumption | trivial); (case k4 => first | assumption | trivial))
  | ((with_reducible refine' rd_neNN ?k1 ?k2 ?_); (case k1 => walk_at "ls"); (case k2 => walk_at "ls"))
  | ((with_reducible refine' rd_eqNN ?k1 ?k2 ?_); (case k1 => walk_at "ls"); (case k2 => walk_at "ls"))
  | ((with_reducible refine' rd_lenN ?k1 ?_); (case k1 => walk_at "ls"))
  | ((with_reducible refine' rd_lenS ?k1 ?_); (case k1 => walk_at "om"))
  | ((with_reducible refine' rd_ixN ?k1 ?k2 ?k3 ?_); (case k1 => walk_at "ls"); (case k2 => walk_at "om"); (case k3 => walk_at "om"))
  | ((with_reducible refine' rd_ixC ?k1 ?k2 ?k3 ?_); (case k1 => walk_at "om"); (case k2 => walk_at "om"); (case k3 => walk_at "om"))
  | ((with_reducible refine' rd_gtup ?k1 ?k2 ?_); (case k1 => exact SqT.of (by assumption)); (case k2 => rfl))
  | ((with_reducible refine' rd_new ?k1 ?_); (case k1 => walk_at "zl"))
  | with_reducible refine rd_ref1 ?_
  | with_reducible refine rd_nF rfl ?_ | with_reducible refine rd_dT rfl ?_ | with_reducible refine rd_cT rfl ?_ | with_reducible refine rd_cF rfl ?_
  | ((with_reducible refine' rd_dT ?k1 ?_); (case k1 => omega)) | ((with_reducible refine' rd_dF ?k1 ?_); (case k1 => omega)) | ((with_reducible refine' rd_nT ?k1 ?_); (case k1 => omega)) | ((with_reducible refine' rd_nF ?k1 ?_); (case k1 => omega)))
local macro_rules | `(tactic| walk_at "rdS") => `(tactic| repeat ((fail_if_success with_reducible show tIfS _ _ _ _ _ _); walk_at "rd1"))
section
variable {P : Program} {w : World} {K : PySem.W.Frag} {mg : Str → Option Value} {base : Heap} {CText CPart CEditor CKeyReader CTextError CInvalidStep CInvalidOperation CDecodeError CNotationError CTooLong CInvalidPlace CInvalidLetter CContradiction CInvalidCount c_x_law_learned p_x_law_learned c_law p_law : Addr}
theorem ok_Editor_init (T : Txt K mg CText CPart CEditor CKeyReader CTextError CInvalidStep CInvalidOperation CDecodeError CNotationError CTooLong CInvalidPlace CInvalidLetter CContradiction CInvalidCount c_x_law_learned p_x_law_learned c_law p_law) : KOk P w K mg base CX0 6 CEditor (spStar 1 (sp_Editor_init K CText CPart CEditor)) := by
  refine T.d_Editor_init.ok sc_Editor_init (fun f cdv A outer s H vs Q E hr h => ?_)
  · obtain ⟨x, dx, m, rs, ss, rfl, hx, hm, hs, ok, few, k⟩ := h
    refine ⟨_, (pss_cons (ps_fld (pv 0) (pe_ks (pe_glob (v := .ref CText) rfl T.g_Text rfl) (ok_Text_init (K := K) T) (hr.mono (by decide)) pass0 (pv 1)) rfl)
    (pss_cons (ps_fld (pv 0) (pe_tup pa_nil) rfl)
    (pss_cons (ps_fld (pv 0) (pe_tup pa_nil) rfl)
    (pss_cons (ps_fld (pv 0) pe_bl rfl)
    (pss_cons (ps_fld (pv 0) (pe_fldK (K := K) rfl (pv 0) (by rfl)) rfl)
    (pss_cons (ps_fld (pv 0) (pe_tup pa_nil) rfl)
    (pss_one (ps_fld (pv 0) (pe_tup pa_nil) rfl)))))))), ?_⟩
    refine rd_startE (show start N_Editor_init [.ref x, .ref m] = [some (.ref x), some (.ref m)] from rfl) ?_
    walk_at "rd"
    refine rd_mkS (.inl hm) (rd_mkText hs ok few fun p H1 t np S1 T1 e1 => ?_)
    walk_at "rd"
    refine rd_edset (S1 _ _ hx) T.cEditor T.na_Editor_present (by decide) fun H2 b2 e2 => ?_
    walk_at "rd"
    intro q3 H3 S3 e3 _
    walk_at "rd"
    refine rd_edset (S3 _ _ e2) T.cEditor T.na_Editor_done fl1 fun H4 b4 e4 => ?_
    walk_at "rd"
    intro q5 H5 S5 e5 _
    walk_at "rd"
    refine rd_edset (S5 _ _ e4) T.cEditor T.na_Editor_undone fl2 fun H6 b6 e6 => ?_
    walk_at "rd"
    refine rd_edset e6 T.cEditor T.na_Editor_is_open fl3 fun H7 b7 e7 => ?_
    walk_at "rd"
    refine rd_fld_at e7 T.cEditor T.na_Editor_present (by rw [lookup_putF, if_neg (by decide +kernel), lookup_putF, if_neg (by decide +kernel), lookup_putF, if_neg (by decide +kernel), lookup_putF, if_pos rfl]) ?_
    walk_at "rd"
    refine rd_edset e7 T.cEditor T.na_Editor_kept_present fl4 fun H8 b8 e8 => ?_
    walk_at "rd"
    intro q9 H9 S9 e9 _
    walk_at "rd"
    refine rd_edset (S9 _ _ e8) T.cEditor T.na_Editor_kept_done fl5 fun H10 b10 e10 => ?_
    walk_at "rd"
    intro q11 H11 S11 e11 _
    walk_at "rd"
    refine rd_edset (S11 _ _ e10) T.cEditor T.na_Editor_kept_undone fl6 fun H12 b12 e12 => ?_
    walk_at "rd"
    rw [edF_made] at e12
    have m5 : Km CEditor [] H5 H12 := (((((Km.but b6 (S5 _ _ e4)).trans (.but b7 e6)).trans (.but b8 e7)).trans (.same S9)).trans (.but b10 (S9 _ _ e8))).trans ((Km.same S11).trans (.but b12 (S11 _ _ e10)))
    have m3 : Km CEditor [] H3 H12 := ((Km.but b4 (S3 _ _ e2)).trans (.same S5)).trans m5
    have m1 : Km CEditor [] H1 H12 := ((Km.but b2 (S1 _ _ hx)).trans (.same S3)).trans m3
    refine k _ (((((((But.same S1).trans b2).trans (.same S3)).trans b4).trans (.same S5)).trans b6).trans (((b7.trans b8).trans (.same S9)).trans ((b10.trans (.same S11)).trans b12))) ?_
    exact ⟨⟨dx, p, q3, q5, _, _, _, [], [], ss, [], []⟩, ⟨e12, TX.km ⟨t, T1, e1⟩ T.ne_Text_Editor T.ne_Part_Editor m1, m3.tup (SqT.of e3), .nil, m5.tup (SqT.of e5), .nil⟩, rfl, rfl, rfl⟩
end
section
variable {P : Program} {w : World} {K : PySem.W.Frag} {mg : Str → Option Value} {base : Heap} {CText CPart CEditor CKeyReader CTextError CInvalidStep CInvalidOperation CDecodeError CNotationError CTooLong CInvalidPlace CInvalidLetter CContradiction CInvalidCount c_x_law_learned p_x_law_learned c_law p_law : Addr}
theorem ok_Editor_present_text (T : Txt K mg CText CPart CEditor CKeyReader CTextError CInvalidStep CInvalidOperation CDecodeError CNotationError CTooLong CInvalidPlace CInvalidLetter CContradiction CInvalidCount c_x_law_learned p_x_law_learned c_law p_law) : POk P w K mg base CX0 1 CEditor "present_text" (sp_Editor_present_text K CText CPart CEditor) := by
  refine T.d_Editor_present_text.ok sc_Editor_present_text (fun vs H Q E h => ?len) (fun f cdv A outer s H vs Q E hr h => ?_)
  case len => obtain ⟨e, ss, ds, us, rfl, _⟩ := h; rfl
  · obtain ⟨e, ss, ds, us, rfl, ed, k⟩ := h
    obtain ⟨i, ed, rfl, rfl, rfl⟩ := ed
    refine ⟨_, (pss_one (ps_ret (pe_fldK (K := K) rfl (pv 0) (by rfl)))), ?_⟩
    refine rd_startE (show start N_Editor_present_text [.ref e] = [some (.ref e)] from rfl) ?_
    walk_at "rd"
    refine rd_fld_at ed.ins T.cEditor T.na_Editor_present edF_present ?_
    exact k _ ed.tx
end
local macro_rules | `(tactic| walk_at "rd1_Fa") => `(tactic| first
  | with_reducible refine rd_seq ?_ | with_reducible refine rd_asg ?_ | with_reducible refine rd_name ?_ | ((with_reducible refine' rd_var ?k1 ?_); (case k1 => rfl)) | with_reducible refine rd_C ?_ | with_reducible refine rd_op ?_ | with_reducible refine rd_cons ?_ | with_reducible refine rd_nil ?_
  | with_reducible refine rd_test ?_ | with_reducible refine rd_tB ?_ | with_reducible refine rd_bl ?_ | with_reducible refine rd_ifS ?_ | with_reducible refine rd_and ?_ | with_reducible refine rd_or ?_ | with_reducible refine rd_not ?_ | with_reducible refine rd_andV ?_ | with_reducible refine rd_orV ?_ | with_reducible refine rd_notV ?_ | with_reducible refine rd_chain ?_
  | with_reducible refine rd_if ?_ | with_reducible refine rd_g ?_ | with_reducible refine rd_m ?_ | with_reducible refine rd_star ?_ | with_reducible refine rd_tup ?_ | with_reducible refine rd_lst ?_ | with_reducible refine rd_fld ?_ | with_reducible refine rd_cb ?_ | with_reducible refine rd_un ?_ | with_reducible refine rd_makeR ?_ | with_reducible refine rd_makeS ?_
  | with_reducible refine rd_bm ?_ | with_reducible refine rd_bm0 ?_ | with_reducible refine rd_next ?_ | with_reducible refine rd_break ?_ | with_reducible refine rd_cont ?_ | with_reducible refine rd_ret ?_ | with_reducible refine rd_retN ?_ | with_reducible refine rd_drop ?_ | with_reducible refine rd_gcons ?_ | with_reducible refine rd_gnil ?_ | with_reducible refine rd_gsub ?_
  | ((with_reducible refine' rd_aug ?k1 ?_); (case k1 => rfl)) | with_reducible refine rd_ipI ?_ | with_reducible refine rd_sfld ?_ | with_reducible refine rd_for ?_ | with_reducible refine rd_iStr ?_ | with_reducible refine rd_iList ?_ | with_reducible refine rd_iTup ?_ | with_reducible refine rd_iRng1 ?_ | with_reducible refine rd_iRng2 ?_ | with_reducible refine rd_iEnumT ?_ | with_reducible refine rd_match ?_ | with_reducible refine rd_par ?_ | with_reducible refine rd_two ?_
  | with_reducible refine rd_sl ?_ | with_reducible refine rd_noPart ?_ | with_reducible refine rd_part ?_ | with_reducible refine rd_pint ?_ | with_reducible refine rd_listRg ?_ | with_reducible refine rd_rg1 ?_ | with_reducible refine rd_rg2 ?_ | with_reducible refine rd_ixO ?_ | with_reducible refine rd_U ?_ | with_reducible refine rd_int_int ?_ | with_reducible refine rd_int_bl ?_ | with_reducible refine rd_min2 ?_ | with_reducible refine rd_max2 ?_ | with_reducible refine rd_in_sign ?_ | with_reducible refine rd_isN ?_ | with_reducible refine rd_notN ?_
  | with_reducible refine rd_lc ?_ | with_reducible refine rd_yes ?_ | with_reducible refine rd_prop ?_ | with_reducible refine rd_cmeth ?_ | with_reducible refine rd_o ?_ | with_reducible refine rd_add_int ?_ | with_reducible refine rd_sub ?_ | with_reducible refine rd_eq_int ?_ | with_reducible refine rd_eq_str ?_ | with_reducible refine rd_eq_bl ?_ | with_reducible refine rd_ne_int ?_ | with_reducible refine rd_ne_str ?_ | with_reducible refine rd_ne_bl ?_ | with_reducible refine rd_I0 ?_
  | with_reducible refine rd_isi_int_int ?_ | with_reducible refine rd_isi_int_bool ?_ | with_reducible refine rd_isi_int_str ?_ | with_reducible refine rd_isi_int_list ?_ | with_reducible refine rd_isi_int_tuple ?_ | with_reducible refine rd_isi_bl_int ?_ | with_reducible refine rd_isi_bl_bool ?_ | with_reducible refine rd_isi_bl_str ?_ | with_reducible refine rd_isi_bl_list ?_ | with_reducible refine rd_isi_bl_tuple ?_ | with_reducible refine rd_isi_str_int ?_ | with_reducible refine rd_isi_str_bool ?_ | with_reducible refine rd_isi_str_str ?_ | with_reducible refine rd_isi_str_list ?_ | with_reducible refine rd_isi_str_tuple ?_ | with_reducible refine rd_isi_non_int ?_ | with_reducible refine rd_isi_non_bool ?_ | with_reducible refine rd_isi_non_str ?_ | with_reducible refine rd_isi_non_list ?_ | with_reducible refine rd_isi_non_tuple ?_)
local macro_rules | `(tactic| walk_at "rd_Fa") => `(tactic| repeat walk_at "rd1_Fa")
local macro_rules | `(tactic| walk_at "same_Fa") => `(tactic| first | assumption | exact Same.refl _ | (refine Same.new ?_ (by assumption); walk_at "same_Fa") | (refine Same.mut ?_ (by assumption); walk_at "same_Fa") | (refine Same.trans ?_ (by assumption); walk_at "same_Fa"))
local macro_rules | `(tactic| walk_at "zl_Fa") => `(tactic| (rw [sizeLine_eq]; first | decide | (simp only [List.length_cons, List.length_nil]; omega) | omega))
local macro_rules | `(tactic| walk_at "sm_Fa") => `(tactic| first | exact Same.refl _ | assumption | ((with_reducible refine' Same.trans ?sx ?sy); (case sy => assumption); (case sx => walk_at "sm_Fa")))
local macro_rules | `(tactic| walk_at "kp_Fa") => `(tactic| first | exact Kp.refl | assumption | ((with_reducible refine' Kp.trans ?kx ?ky); (case ky => assumption); (case kx => walk_at "kp_Fa")) | ((with_reducible refine' Kp.trans ?kx (Kp.same ?ky)); (case ky => assumption); (case kx => walk_at "kp_Fa")))
local macro_rules | `(tactic| walk_at "tx_Fa") => `(tactic| first | assumption | ((with_reducible refine' TX.kp ?tx1 ?tx2); (case tx1 => assumption); (case tx2 => walk_at "kp_Fa")))
local macro_rules | `(tactic| walk_at "ts_Fa") => `(tactic| first | assumption | ((with_reducible refine' TS'.kp ?tx1 ?tx2); (case tx1 => assumption); (case tx2 => walk_at "kp_Fa")) | ((with_reducible refine' ts_nil ?tx1); (case tx1 => assumption)))
local macro_rules | `(tactic| walk_at "sx_Fa") => `(tactic| first | assumption | ((with_reducible refine' SX.kp ?tx1 ?tx2); (case tx1 => assumption); (case tx2 => walk_at "kp_Fa")) | ((with_reducible refine' TS'.sx ?tx1); (case tx1 => walk_at "ts_Fa")))
local macro_rules | `(tactic| walk_at "row_Fa") => `(tactic| first | assumption | ((with_reducible refine' RowAt.mono ?tx1 ?tx2); (case tx1 => assumption); (case tx2 => walk_at "sm_Fa")))
local macro_rules | `(tactic| walk_at "ls_Fa") => `(tactic| first | assumption | ((with_reducible refine' kp_natV ?tx1 ?tx2); (case tx1 => assumption); (case tx2 => walk_at "kp_Fa")) | ((with_reducible refine' kp_sgV ?tx1 ?tx2); (case tx1 => assumption); (case tx2 => walk_at "kp_Fa")) | ((refine' Same.lk ?tx1 ?tx2); (case tx1 => assumption); (case tx2 => walk_at "sm_Fa")))
local macro_rules | `(tactic| walk_at "om_Fa") => `(tactic| first | omega | with_reducible assumption)
local macro_rules | `(tactic| walk_at "rd1_Fa") => `(tactic| first
  | with_reducible refine rd_cons ?_ | ((with_reducible refine' rd_var ?k1 ?_); (case k1 => rfl)) | with_reducible refine rd_C ?_ | with_reducible refine rd_nil ?_ | with_reducible refine rd_op ?_ | with_reducible refine rd_g ?_
  | ((with_reducible refine' rd_nameE ?k1 ?_); (case k1 => (dsimp only [List.set_cons_zero, List.set_cons_succ]; exact rfl))) | with_reducible refine rd_asg ?_ | with_reducible refine rd_seq ?_ | with_reducible refine rd_andrfl ?_ | with_reducible refine rd_prop ?_ | with_reducible refine rd_cb ?_ | with_reducible refine rd_test ?_ | with_reducible refine rd_bl ?_ | with_reducible refine rd_ifS ?_ | with_reducible refine rd_next ?_
  | with_reducible refine rd_tupN ?_ | with_reducible refine rd_lstN ?_ | with_reducible refine rd_add_int ?_ | with_reducible refine rd_sub ?_ | with_reducible refine rd_tB ?_ | with_reducible refine rd_not ?_ | with_reducible refine rd_and ?_ | with_reducible refine rd_or ?_ | with_reducible refine rd_ret ?_ | with_reducible refine rd_cmeth ?_ | with_reducible refine rd_o ?_ | with_reducible refine rd_I0 ?_
  | ((with_reducible show @Eq (Option HO) _ Option.none → _); intro) | with_reducible refine rd_m1 ?_ | with_reducible refine rd_exStr ?_ | ((with_reducible refine' rd_iNat ?k1 ?_); (case k1 => walk_at "ls_Fa"))
  | ((with_reducible refine' rd_taken ?k1 ?k2 ?k3 ?_); (case k1 => walk_at "row_Fa"); (case k2 => walk_at "om_Fa"); (case k3 => walk_at "om_Fa"))
  | ((with_reducible refine' rd_word ?k1 ?k2 ?k3 ?_); (case k1 => walk_at "row_Fa"); (case k2 => walk_at "om_Fa"); (case k3 => walk_at "om_Fa"))
  | ((with_reducible refine' rd_stepsL ?k1 ?k2 ?k3 ?k4 ?k5 ?_); (case k1 => walk_at "row_Fa"); (case k2 => walk_at "om_Fa"); (case k3 => walk_at "om_Fa"); (case k4 => walk_at "om_Fa"); (case k5 => walk_at "om_Fa"))
  | ((with_reducible refine' rd_listS ?k1 ?_); (case k1 => walk_at "ts_Fa"))
  | ((with_reducible refine' rd_ofSteps ?k1 ?k2 ?k3 ?_); (case k1 => walk_at "sx_Fa"); (case k2 => walk_at "om_Fa"); (case k3 => walk_at "om_Fa"))
  | ((with_reducible refine' rd_pSize ?k1 ?_); (case k1 => walk_at "tx_Fa"))
  | ((with_reducible refine' rd_pTyped ?k1 ?_); (case k1 => walk_at "tx_Fa"))
  | ((with_reducible refine' rd_pSteps ?k1 ?_); (case k1 => walk_at "tx_Fa"))
  | ((with_reducible refine' rd_oCall ?k1 ?k2 ?k3 ?_); (case k1 => walk_at "tx_Fa"); (case k2 => walk_at "om_Fa"); (case k3 => walk_at "om_Fa"))
  | ((with_reducible refine' rd_oItem ?k1 ?k2 ?k3 ?_); (case k1 => walk_at "tx_Fa"); (case k2 => walk_at "om_Fa"); (case k3 => walk_at "om_Fa"))
  | ((with_reducible refine' rd_opAdd ?k1 ?k2 ?k3 ?k4 ?_); (case k1 => walk_at "tx_Fa"); (case k2 => walk_at "tx_Fa"); (case k3 => walk_at "om_Fa"); (case k4 => walk_at "om_Fa"))
  | ((with_reducible refine' rd_opMul ?k1 ?k2 ?k3 ?k4 ?k5 ?_); (case k1 => walk_at "tx_Fa"); (case k2 => walk_at "om_Fa"); (case k3 => walk_at "om_Fa"); (case k4 => walk_at "om_Fa"); (case k5 => walk_at "om_Fa"))
  | ((with_reducible refine' rd_opEq ?k1 ?k2 ?_); (case k1 => walk_at "tx_Fa"); (case k2 => walk_at "tx_Fa"))
  | ((with_reducible refine' rd_opEqT ?k1 ?k2 ?_); (case k1 => walk_at "tx_Fa"); (case k2 => walk_at "ts_Fa"))
  | ((with_reducible refine' rd_opNe ?k1 ?k2 ?_); (case k1 => walk_at "tx_Fa"); (case k2 => walk_at "tx_Fa"))
  | ((with_reducible refine' rd_mTx ?k1 ?k2 ?_); (case k1 => walk_at "tx_Fa"); (case k2 => decide +kernel))
  | ((with_reducible refine' rd_mRetyped ?k1 ?k2 ?k3 ?_); (case k1 => walk_at "tx_Fa"); (case k2 => walk_at "om_Fa"); (case k3 => walk_at "om_Fa"))
  | ((with_reducible refine' rd_eqTT ?k1 ?k2 ?k3 ?k4 ?_); (case k1 => walk_at "ts_Fa"); (case k2 => walk_at "ts_Fa"); (case k3 => first | assumption | trivial); (case k4 => first | assumption | trivial))
  | ((with_reducible refine' rd_neTT ?k1 ?k2 ?k3 ?k4 ?_); (case k1 => walk_at "ts_Fa"); (case k2 => walk_at "ts_Fa"); (case k3 => first | assumption | trivial); (case k4 => first | assumption | trivial))
  | ((with_reducible refine' rd_neNN ?k1 ?k2 ?_); (case k1 => walk_at "ls_Fa"); (case k2 => walk_at "ls_Fa"))
  | ((with_reducible refine' rd_eqNN ?k1 ?k2 ?_); (case k1 => walk_at "ls_Fa"); (case k2 => walk_at "ls_Fa"))
  | ((with_reducible refine' rd_lenN ?k1 ?_); (case k1 => walk_at "ls_Fa"))
  | ((with_reducible refine' rd_lenS ?k1 ?_); (case k1 => walk_at "om_Fa"))
  | ((with_reducible refine' rd_ixN ?k1 ?k2 ?k3 ?_); (case k1 => walk_at "ls_Fa"); (case k2 => walk_at "om_Fa"); (case k3 => walk_at "om_Fa"))
  | ((with_reducible refine' rd_ixC ?k1 ?k2 ?k3 ?_); (case k1 => walk_at "om_Fa"); (case k2 => walk_at "om_Fa"); (case k3 => walk_at "om_Fa"))
  | ((with_reducible refine' rd_gtup ?k1 ?k2 ?_); (case k1 => exact SqT.of (by assumption)); (case k2 => rfl))
  | ((with_reducible refine' rd_new ?k1 ?_); (case k1 => walk_at "zl_Fa"))
  | with_reducible refine rd_ref1 ?_
  | with_reducible refine rd_nF rfl ?_ | with_reducible refine rd_dT rfl ?_ | with_reducible refine rd_cT rfl ?_ | with_reducible refine rd_cF rfl ?_
  | ((with_reducible refine' rd_dT ?k1 ?_); (case k1 => omega)) | ((with_reducible refine' rd_dF ?k1 ?_); (case k1 => omega)) | ((with_reducible refine' rd_nT ?k1 ?_); (case k1 => omega)) | ((with_reducible refine' rd_nF ?k1 ?_); (case k1 => omega)))
local macro_rules | `(tactic| walk_at "rdS_Fa") => `(tactic| repeat ((fail_if_success with_reducible show tIfS _ _ _ _ _ _); walk_at "rd1_Fa"))
section
variable {P : Program} {w : World} {K : PySem.W.Frag} {mg : Str → Option Value} {base : Heap} {CText CPart CEditor CKeyReader CTextError CInvalidStep CInvalidOperation CDecodeError CNotationError CTooLong CInvalidPlace CInvalidLetter CContradiction CInvalidCount c_x_law_learned p_x_law_learned c_law p_law : Addr}
theorem ok_Editor_apply (T : Txt K mg CText CPart CEditor CKeyReader CTextError CInvalidStep CInvalidOperation CDecodeError CNotationError CTooLong CInvalidPlace CInvalidLetter CContradiction CInvalidCount c_x_law_learned p_x_law_learned c_law p_law) : BOk P w K mg base CX0 1 CEditor "apply" (spStar 1 (sp_Editor_apply0 K CText CPart CEditor)) := by
  refine T.d_Editor_apply.ok sc_Editor_apply (fun f cdv A outer s H vs Q E hr h => ?_)
  · obtain ⟨e, m, ss, ds, us, rfl, ed, hm, k⟩ := h
    obtain ⟨i, ed, rfl, rfl, rfl⟩ := ed
    refine ⟨_, (pss_cons (ps_for PassesOwn.never rfl (pi_enumT T.n_enumerate (pa_cons (pv 1) pa_nil)) (pg_tupK (K := K) (n := 2) rfl rfl (pgs_cons (pg_name (i := 2) sc_Editor_apply.nd rfl (Or.inl rfl)) (pgs_cons (pg_name (i := 3) sc_Editor_apply.nd rfl (Or.inl rfl)) pgs_nil))) (pss_one (ps_never)))
    (pss_cons (ps_asg (pe_tup (pa_cons (pe_fldK (K := K) rfl (pv 0) (by rfl)) (pa_cons (pe_fldK (K := K) rfl (pv 0) (by rfl)) (pa_cons (pe_fldK (K := K) rfl (pv 0) (by rfl)) (pa_cons (pe_lst pa_nil) (pa_cons pe_non pa_nil)))))) (pg_tupK (K := K) (n := 5) rfl rfl (pgs_cons (pg_name (i := 4) sc_Editor_apply.nd rfl (Or.inl rfl)) (pgs_cons (pg_name (i := 5) sc_Editor_apply.nd rfl (Or.inl rfl)) (pgs_cons (pg_name (i := 6) sc_Editor_apply.nd rfl (Or.inl rfl)) (pgs_cons (pg_name (i := 7) sc_Editor_apply.nd rfl (Or.inl rfl)) (pgs_cons (pg_name (i := 8) sc_Editor_apply.nd rfl (Or.inl rfl)) pgs_nil)))))))
    (pss_cons (ps_fin0 (pss_cons (ps_for PassesOwn.never rfl (pi_tupK (K := K) rfl (pv 1)) (pg_name (i := 3) sc_Editor_apply.nd rfl (Or.inl rfl)) (pss_one (ps_never)))
    (pss_one (ps_set (i := 8) sc_Editor_apply.nd rfl (Or.inl rfl) pe_bl)))
    (pss_one (ps_if (pt_cmpR oIsN (pv 8) pe_non (nomark _)) (pss_one (ps_asg (pe_tup (pa_cons (pv 4) (pa_cons (pv 5) (pa_cons (pv 6) pa_nil)))) (pg_tupK (K := K) (n := 3) rfl rfl (pgs_cons (pg_fld (K := K) rfl (pv 0)) (pgs_cons (pg_fld (K := K) rfl (pv 0)) (pgs_cons (pg_fld (K := K) rfl (pv 0)) pgs_nil))))))
    pss_nil)))
    (pss_one (ps_ret (pv 7)))))), ?_⟩
    refine rd_startE (show start N_Editor_apply [.ref e, .ref m] = [some (.ref e), some (.ref m), none, none, none, none, none, none, none] from rfl) ?_
    walk_at "rd_Fa"
    refine ⟨m, [], rfl, hm, for_enumT (xs := []) (fun j σ H' => ∃ v2 v3, σ = [some (.ref e), some (.ref m), v2, v3, none, none, none, none, none] ∧ Same H H')
      ⟨_, _, rfl, Same.refl _⟩ (fun j σ H' _ ⟨_, _, _, S⟩ => Same.tup S hm) ?_ ?_⟩
    · rintro j v' tu σ H1 hv' _ hT
      simp at hv'
    · rintro σ H1 ⟨v2, v3, rfl, S1⟩
      have ed1 := ed.same S1
      walk_at "rd_Fa"
      refine rd_fld_at ed1.ins T.cEditor T.na_Editor_present edF_present ?_
      walk_at "rd_Fa"
      refine rd_fld_at ed1.ins T.cEditor T.na_Editor_done edF_done ?_
      walk_at "rd_Fa"
      refine rd_fld_at ed1.ins T.cEditor T.na_Editor_undone edF_undone ?_
      walk_at "rd_Fa"
      intro R H2 S2 e2 n2
      walk_at "rd_Fa"
      intro tp H3 S3 e3 _
      refine rd_gtup (SqT.of e3) rfl ?_
      walk_at "rd_Fa"
      refine rd_fin0 ?_
      walk_at "rd_Fa"
      have S03 : Same H H3 := Same.trans S1 (Same.trans S2 S3)
      refine ⟨⟨_, Same.tup S03 hm⟩, for_tup (xs := []) (fun j σ H' => ∃ v2 v3, σ = [some (.ref e), some (.ref m), v2, v3, some (.ref i.p), some (.ref i.d), some (.ref i.u), some (.ref R), some .non] ∧ Same H3 H')
        ⟨_, _, rfl, Same.refl _⟩ (fun j σ H' _ ⟨_, _, _, S⟩ => Same.tup (Same.trans S03 S) hm) ?_ ?_⟩
      · rintro j v' σ H4 hv' _
        simp at hv'
      · rintro σ H4 ⟨v2, v3, rfl, S4⟩
        walk_at "rd_Fa"
        exact k H4 R (Same.trans S03 S4) (S4 _ _ (S3 _ _ e2))
end
section
variable {P : Program} {w : World} {K : PySem.W.Frag} {mg : Str → Option Value} {base : Heap} {CText CPart CEditor CKeyReader CTextError CInvalidStep CInvalidOperation CDecodeError CNotationError CTooLong CInvalidPlace CInvalidLetter CContradiction CInvalidCount c_x_law_learned p_x_law_learned c_law p_law : Addr}
theorem ok_Editor_replay (T : Txt K mg CText CPart CEditor CKeyReader CTextError CInvalidStep CInvalidOperation CDecodeError CNotationError CTooLong CInvalidPlace CInvalidLetter CContradiction CInvalidCount c_x_law_learned p_x_law_learned c_law p_law) : COk P w K mg base CX0 8 CEditor "replay" (sp_Editor_replay0 K CText CPart CEditor) := by
  refine T.d_Editor_replay.ok sc_Editor_replay (fun vs H Q E h => ?len) (fun f cdv A outer s H vs Q E hr h => ?_)
  case len => obtain ⟨t, rs, ss, l, rfl, _⟩ := h; rfl
  · obtain ⟨t, rs, ss, l, rfl, ht, hs, ok, few, hl, k⟩ := h
    refine ⟨_, (pss_cons (ps_set (i := 3) sc_Editor_replay.nd rfl (Or.inl rfl) (pe_ks (pv 0) (ok_Editor_init (K := K) T) (hr.mono (by decide)) pass0 (pv 1)))
    (pss_cons (ps_expr (pe_mS (K := K) rfl (pv 3) T.cEditor (ok_Editor_apply (K := K) T) (hr.mono (by decide)) pass0 (pv 2)))
    (pss_one (ps_ret (pv 3))))), ?_⟩
    refine rd_startE (show start N_Editor_replay [.ref CEditor, .ref t, .ref l] = [some (.ref CEditor), some (.ref t), some (.ref l), none] from rfl) ?_
    walk_at "rd_Fa"
    refine rd_mkS (.inl ht) (rd_mkEd hs ok few fun x H1 nx S1 ed => ?_)
    walk_at "rd_Fa"
    refine rd_mS ?_
    walk_at "rd_Fa"
    refine ⟨ed.insM, fun H2 S2 => ?_⟩
    walk_at "rd_Fa"
    have S02 : Same H H2 := Same.trans S1 S2
    refine ⟨Same.refl _, l, [], rfl, hl.imp (Same.tup S02) (Same.seq S02), ?_⟩
    refine ⟨[.ref x], [], rfl, rfl, by rw [sizeLine_eq]; decide, fun p np => ?_⟩
    have S3 : Same H2 (upd H2 p (.tup [])) := Same.new (Same.refl _) np
    refine ⟨x, p, ss, [], [], rfl, (ed.same S2).same S3, SqT.of upd_same, fun H4 l4 S4 e4 => ?_⟩
    walk_at "rd_Fa"
    exact k H4 x (Same.trans S02 (Same.trans S3 S4)) nx (((ed.same S2).same S3).same S4)
end
section
variable {P : Program} {w : World} {K : PySem.W.Frag} {mg : Str → Option Value} {base : Heap} {CText CPart CEditor CKeyReader CTextError CInvalidStep CInvalidOperation CDecodeError CNotationError CTooLong CInvalidPlace CInvalidLetter CContradiction CInvalidCount c_x_law_learned p_x_law_learned c_law p_law : Addr}
theorem gv_x_law_told {X : Cx} (T : Txt X.K X.mg CText CPart CEditor CKeyReader CTextError CInvalidStep CInvalidOperation CDecodeError CNotationError CTooLong CInvalidPlace CInvalidLetter CContradiction CInvalidCount c_x_law_learned p_x_law_learned c_law p_law) (g : Addr) (cdg : Value) : Gives X N_x_law_told "_law_told" (defScope s_x_law_told) g cdg (defBody s_x_law_told) "_law_work"
    (fun tl H Q => tl (fun cls d H' => ToAns X.K CTextError [CInvalidStep, CInvalidOperation, CDecodeError, CNotationError, CTooLong, CInvalidPlace, CInvalidLetter, CContradiction, CInvalidCount] cls d H' Q) H Q) := by
  refine gives_ret (i := 1) (CS := CTextError) sc_x_law_told.nd rfl rfl rfl T.xb_TextError.g rfl (fun f => rfl) (fun s H hr e oe cls d pn hz hf => (pss_cons (ps_set (i := 2) sc_x_law_told.nd rfl (Or.inl rfl) (pe_lst (pa_cons (pe_callB (call_isX (K := X.K) rfl hz hf) rfl T.n_isinstance (by decide +kernel) (pa_cons (pv 1) (pa_cons (pe_glob (v := .ref CInvalidStep) rfl T.x_InvalidStep.g rfl) pa_nil))) (pa_cons (pe_callB (call_isX (K := X.K) rfl hz hf) rfl T.n_isinstance (by decide +kernel) (pa_cons (pv 1) (pa_cons (pe_glob (v := .ref CInvalidOperation) rfl T.x_InvalidOperation.g rfl) pa_nil))) (pa_cons (pe_callB (call_isX (K := X.K) rfl hz hf) rfl T.n_isinstance (by decide +kernel) (pa_cons (pv 1) (pa_cons (pe_glob (v := .ref CDecodeError) rfl T.x_DecodeError.g rfl) pa_nil))) pa_nil)))))
    (pss_cons (ps_set (i := 2) sc_x_law_told.nd rfl (Or.inl rfl) (pe_op (addK (K := X.K) rfl) (pv 2) (pe_lst (pa_cons (pe_callB (call_isX (K := X.K) rfl hz hf) rfl T.n_isinstance (by decide +kernel) (pa_cons (pv 1) (pa_cons (pe_glob (v := .ref CNotationError) rfl T.x_NotationError.g rfl) pa_nil))) (pa_cons (pe_callB (call_isX (K := X.K) rfl hz hf) rfl T.n_isinstance (by decide +kernel) (pa_cons (pv 1) (pa_cons (pe_glob (v := .ref CTooLong) rfl T.x_TooLong.g rfl) pa_nil))) (pa_cons (pe_callB (call_isX (K := X.K) rfl hz hf) rfl T.n_isinstance (by decide +kernel) (pa_cons (pv 1) (pa_cons (pe_glob (v := .ref CInvalidPlace) rfl T.x_InvalidPlace.g rfl) pa_nil))) pa_nil))))))
    (pss_cons (ps_set (i := 2) sc_x_law_told.nd rfl (Or.inl rfl) (pe_op (addK (K := X.K) rfl) (pv 2) (pe_lst (pa_cons (pe_callB (call_isX (K := X.K) rfl hz hf) rfl T.n_isinstance (by decide +kernel) (pa_cons (pv 1) (pa_cons (pe_glob (v := .ref CInvalidLetter) rfl T.x_InvalidLetter.g rfl) pa_nil))) (pa_cons (pe_callB (call_isX (K := X.K) rfl hz hf) rfl T.n_isinstance (by decide +kernel) (pa_cons (pv 1) (pa_cons (pe_glob (v := .ref CContradiction) rfl T.x_Contradiction.g rfl) pa_nil))) (pa_cons (pe_callB (call_isX (K := X.K) rfl hz hf) rfl T.n_isinstance (by decide +kernel) (pa_cons (pv 1) (pa_cons (pe_glob (v := .ref CInvalidCount) rfl T.x_InvalidCount.g rfl) pa_nil))) pa_nil))))))
    (pss_cons (ps_set (i := 3) sc_x_law_told.nd rfl (Or.inl rfl) (pe_lst (pa_cons pe_str (pa_cons pe_str (pa_cons pe_str (pa_cons pe_str (pa_cons pe_str (pa_cons pe_str pa_nil))))))))
    (pss_cons (ps_set (i := 3) sc_x_law_told.nd rfl (Or.inl rfl) (pe_op (addK (K := X.K) rfl) (pv 3) (pe_lst (pa_cons pe_str (pa_cons pe_str (pa_cons pe_str (pa_cons pe_str pa_nil)))))))
    (pss_cons (ps_set (i := 4) sc_x_law_told.nd rfl (Or.inl rfl) (pe_ifExp (PW.pt (pw_and (pt_cmpR (eqK (K := X.K) rfl hr.units) (pe_bmK (K := X.K) rfl PySem.F.plainAttrs_list PySem.F.slot_list_count PySem.F.type_list_count (mt_bcountK (K := X.K) rfl) (pv 2) (pa_cons pe_bl pa_nil)) pe_int (nomark _)) (pw_and1 (pt_val (pe_callB (call_isX (K := X.K) rfl hz hf) rfl T.n_isinstance (by decide +kernel) (pa_cons (pv 1) (pa_cons (pe_bltn (v := .ty "ValueError") rfl T.n_ValueError (by decide +kernel) rfl) pa_nil))))))) (pe_bmK (K := X.K) rfl PySem.F.plainAttrs_list PySem.F.slot_list_index PySem.F.type_list_index (mt_indexK (K := X.K) rfl) (pv 2) (pa_cons pe_bl pa_nil)) pe_int))
    (pss_cons (ps_if (pt_cmpR op_lt (pv 4) pe_int (nomark _)) (pss_one (ps_ret (pe_tup (pa_cons pe_str (pa_cons (pe_ix (ixK (K := X.K) rfl) (pv 3) (pv 4) (fun _ _ => rfl)) (pa_cons (pe_xf2 (K := X.K) rfl hz hf (pv 1)) pa_nil))))))
    pss_nil)
    (pss_cons (ps_if (pt_cmpR op_lt (pv 4) pe_int (nomark _)) (pss_one (ps_ret (pe_ifExp (pt_cmpR (eqK (K := X.K) rfl hr.units) (pv 4) pe_int (nomark _)) (pe_tup (pa_cons pe_str (pa_cons (pe_ix (ixK (K := X.K) rfl) (pv 3) (pv 4) (fun _ _ => rfl)) (pa_cons (pe_xf2 (K := X.K) rfl hz hf (pv 1)) pa_nil)))) (pe_tup (pa_cons pe_str (pa_cons (pe_ix (ixK (K := X.K) rfl) (pv 3) (pv 4) (fun _ _ => rfl)) (pa_cons (pe_xf2 (K := X.K) rfl hz hf (pv 1)) (pa_cons (pe_xf2 (K := X.K) rfl hz hf (pv 1)) pa_nil))))))))
    pss_nil)
    (pss_one (ps_ret (pe_tup (pa_cons pe_str (pa_cons (pe_ix (ixK (K := X.K) rfl) (pv 3) (pv 4) (fun _ _ => rfl)) pa_nil)))))))))))))) (fun cls d H Q h => ?_) (fun cls d H Q f e nx bk ct h he => ?_)
  · obtain ⟨i, D, w, rfl, hc, _⟩ := h
    exact hc.exm
  · have hdict := h.dict
    obtain ⟨i, D, w, rfl, hc, hw, hans⟩ := h
    have hi : i < 9 := (List.getElem?_eq_some_iff.mp hw).1
    have dm : ∀ {H' : Hp}, Same H H' → d = none ∨ ∃ dd fs, d = some dd ∧ H' dd = some (.xd fs) := fun S => hdict.imp id fun ⟨dd, fs, e1, e2⟩ => ⟨dd, fs, e1, S _ _ e2⟩
    rw [show (start N_x_law_told [V.ref f]).set 1 (some (V.ref e)) = [some (V.ref f), some (V.ref e), none, none, none] from rfl]
    walk_at "rd_Fa"
    refine rd_isX hc.isi (dm (Same.refl _)) (hc.kit 0 _ rfl) ?_
    walk_at "rd_Fa"
    refine rd_isX hc.isi (dm (Same.refl _)) (hc.kit 1 _ rfl) ?_
    walk_at "rd_Fa"
    refine rd_isX hc.isi (dm (Same.refl _)) (hc.kit 2 _ rfl) ?_
    walk_at "rd_Fa"
    intro l1 H1 S1 e1 n1
    walk_at "rd_Fa"
    refine rd_isX hc.isi (dm S1) (hc.kit 3 _ rfl) ?_
    walk_at "rd_Fa"
    refine rd_isX hc.isi (dm S1) (hc.kit 4 _ rfl) ?_
    walk_at "rd_Fa"
    refine rd_isX hc.isi (dm S1) (hc.kit 5 _ rfl) ?_
    walk_at "rd_Fa"
    intro l2 H2 S2 e2 n2
    walk_at "rd_Fa"
    refine rd_addSame (S2 _ _ e1) e2 (by rw [sizeLine_eq]; show 6 ≤ 16777216; decide) fun l3 H3 S23 n3 e3 => ?_
    have S3 : Same H H3 := (S1.trans S2).trans S23
    clear S23 n3
    walk_at "rd_Fa"
    refine rd_isX hc.isi (dm S3) (hc.kit 6 _ rfl) ?_
    walk_at "rd_Fa"
    refine rd_isX hc.isi (dm S3) (hc.kit 7 _ rfl) ?_
    walk_at "rd_Fa"
    refine rd_isX hc.isi (dm S3) (hc.kit 8 _ rfl) ?_
    walk_at "rd_Fa"
    intro l4 H4 S4 e4 n4
    walk_at "rd_Fa"
    refine rd_addSame (S4 _ _ e3) e4 (by rw [sizeLine_eq]; show 9 ≤ 16777216; decide) fun l5 H5 S45 n5 e5 => ?_
    have S5 : Same H H5 := (S3.trans S4).trans S45
    have e5 : H5 l5 = some (.lst ((kb9 i).map V.bl)) := e5
    clear S45 n5 e3 S3 e1 S1 S2 e2 S4 e4 n1 n2 n4
    walk_at "rd_Fa"
    intro l6 H6 S6 e6 n6
    walk_at "rd_Fa"
    intro l7 H7 S7 e7 n7
    walk_at "rd_Fa"
    refine rd_addSame (S7 _ _ e6) e7 (by rw [sizeLine_eq]; show 10 ≤ 16777216; decide) fun l8 H8 S78 n8 e8 => ?_
    have S8 : Same H H8 := S5.trans ((S6.trans S7).trans S78)
    have e9 : H8 l5 = some (.lst ((kb9 i).map V.bl)) := S78 _ _ (S7 _ _ (S6 _ _ e5))
    have e8 : H8 l8 = some (.lst (to10.map V.str)) := e8
    clear S78 n8 e6 S6 e5 S5 S7 e7 n6 n7
    walk_at "rd_Fa"
    refine rd_tyL (SqL.of e9) _ ?_
    walk_at "rd_Fa"
    refine rd_bcount (L := kb9 i) (SqL.of e9) ?_
    rw [kb9_count i hi]
    walk_at "rd_Fa"
    refine rd_isXT hc.isi (dm S8) hc.ve ?_
    walk_at "rd_Fa"
    refine rd_tyL (SqL.of e9) _ ?_
    walk_at "rd_Fa"
    refine rd_kb9Index hi e9 ?_
    walk_at "rd_Fa"
    have e10 : atI (to10.map V.str) (i : Nat) = some (.str w) := atI_nat (by rw [List.getElem?_map, to10_at hw]; rfl)
    rcases hans with ⟨h2, hF, dd, n, fs, rfl, hx, hl, k⟩ | ⟨h2, hF, dd, n, fs, rfl, hx, hl, k⟩ | ⟨h2, hF, hG, dd, n, m, fs, rfl, hx, hl, hm, k⟩ | ⟨h2, rfl, k⟩
    · refine rd_dT (by omega) ?_
      walk_at "rd_Fa"
      refine rd_ixI ?_ (SqL.of e8) e10
      walk_at "rd_Fa"
      refine ⟨_, rfl, rfl, D, dd, fs, .int n, rfl, hF.xf, hF.no, rfl, S8 _ _ hx, hl, ?_⟩
      walk_at "rd_Fa"
      intro p Hp Sp ep _
      exact k p Hp (S8.trans Sp) ep
    · subst h2
      refine rd_dF (by omega) ?_
      walk_at "rd_Fa"
      refine rd_ixI ?_ (SqL.of e8) e10
      walk_at "rd_Fa"
      refine ⟨_, rfl, rfl, D, dd, fs, .int n, rfl, hF.xf, hF.no, rfl, S8 _ _ hx, hl, ?_⟩
      walk_at "rd_Fa"
      intro p Hp Sp ep _
      exact k p Hp (S8.trans Sp) ep
    · subst h2
      refine rd_dF (by omega) ?_
      walk_at "rd_Fa"
      refine rd_ixI ?_ (SqL.of e8) e10
      walk_at "rd_Fa"
      refine ⟨_, rfl, rfl, D, dd, fs, n, rfl, hF.xf, hF.no, rfl, S8 _ _ hx, hl, ?_⟩
      walk_at "rd_Fa"
      refine ⟨_, rfl, rfl, D, dd, fs, m, rfl, hG.xf, hG.no, rfl, S8 _ _ hx, hm, ?_⟩
      walk_at "rd_Fa"
      intro p Hp Sp ep _
      exact k p Hp (S8.trans Sp) ep
    · refine rd_dF (by omega) ?_
      walk_at "rd_Fa"
      refine rd_ixI ?_ (SqL.of e8) e10
      walk_at "rd_Fa"
      intro p Hp Sp ep _
      exact k p Hp (S8.trans Sp) ep
end
section
variable {P : Program} {w : World} {K : PySem.W.Frag} {mg : Str → Option Value} {base : Heap} {CText CPart CEditor CKeyReader CTextError CInvalidStep CInvalidOperation CDecodeError CNotationError CTooLong CInvalidPlace CInvalidLetter CContradiction CInvalidCount c_x_law_learned p_x_law_learned c_law p_law : Addr}
theorem ok_x_law_word (T : Txt K mg CText CPart CEditor CKeyReader CTextError CInvalidStep CInvalidOperation CDecodeError CNotationError CTooLong CInvalidPlace CInvalidLetter CContradiction CInvalidCount c_x_law_learned p_x_law_learned c_law p_law) : GOk P w K mg base CX0 3 "_law_word" (sp_x_law_wordD K) := by
  refine T.d_x_law_word.ok sc_x_law_word (fun vs H Q E h => ?len) (fun f cdv A outer s H vs Q E hr h => ?_)
  case len => obtain ⟨r, rfl, _⟩ := h; rfl
  · obtain ⟨r, rfl, row, k⟩ := h
    refine ⟨_, (pss_one (ps_ret (pe_joinK (K := K) rfl pe_str (pe_lc (own := [("_law_k", 1)]) rfl sc_x_law_word.nd (pi_range1 rfl T.n_range (pa_cons (pe_op (addK (K := K) rfl) pe_int (pe_g (ok_x_law_next (K := K) T) (hr.mono (by decide)) pass0 (pa_cons (pv 0) (pa_cons pe_int pa_nil)))) pa_nil)) (blkOk_by (own := [("_law_k", 1)]) (N := N_x_law_word) (sc := (defScope s_x_law_word)) (by first | decide +kernel | rfl)) (fun _ _ _ _ _ => (pg_name (i := 1) sc_x_law_word.nd rfl (Or.inl rfl))) (fun _ _ _ _ _ => pts_nil) (fun _ _ _ _ _ => (pe_g (ok_x_law_pick (K := K) T) (hr.mono (by decide)) pass0 (pa_cons (pv 0) (pa_cons (pe_lst (pa_cons pe_str (pa_cons pe_str (pa_cons pe_str (pa_cons pe_str pa_nil))))) pa_nil)))))))), ?_⟩
    refine rd_startE (show start N_x_law_word [.ref r] = [some (.ref r), none] from rfl) ?_
    walk_at "rd_Fa"
    refine rd_nextD row (by decide) (by decide) fun n H1 hn k1 row1 => ?_
    walk_at "rd_Fa"
    refine ⟨_, rfl, by omega, by omega, fun D hD => lc_draw (n := n + 1) (it := fun i => .int (0 + (i : Nat))) (fun c : Nat => V.str ⟨#[c]⟩) (fun _ => rfl) (fun H' => by rw [show (1 + (n : Int)).toNat = n + 1 by omega]; exact plain_rng) hD (by rw [sizeLine_eq]; omega) (fun v => rfl) row1 (fun c => c = 97 ∨ c = 98 ∨ c = 99 ∨ c = 122) (fun i H2 Q2 hi k2 row2 q => ?_) fun H2 ss k2 row2 eD hl hs => ?_⟩
    · walk_at "rd_Fa"
      intro l3 H3 S3 e3 _
      walk_at "rd_Fa"
      refine rd_pick (row2.mono S3) (SqL.of e3) (nr_vals fun v hv => by simp at hv; rcases hv with rfl | rfl | rfl | rfl <;> rfl) (by decide) (by decide) fun j v H4 hv k4 row4 => ?_
      obtain ⟨c, rfl, hc⟩ := pick_abcz hv
      exact q c H4 hc ((Kp.same S3).trans k4) row4
    · refine rd_joinS (L := ss) eD (by omega) ?_
      refine k (mkS ss) H2 ⟨?_, ?_, ?_⟩ (k1.trans k2) row2
      · rw [mkS_len]; omega
      · rw [mkS_len]; omega
      · rw [tl_mkS]; exact hs
end
section
variable {P : Program} {w : World} {K : PySem.W.Frag} {mg : Str → Option Value} {base : Heap} {CText CPart CEditor CKeyReader CTextError CInvalidStep CInvalidOperation CDecodeError CNotationError CTooLong CInvalidPlace CInvalidLetter CContradiction CInvalidCount c_x_law_learned p_x_law_learned c_law p_law : Addr}
theorem ok_x_law_drawn (T : Txt K mg CText CPart CEditor CKeyReader CTextError CInvalidStep CInvalidOperation CDecodeError CNotationError CTooLong CInvalidPlace CInvalidLetter CContradiction CInvalidCount c_x_law_learned p_x_law_learned c_law p_law) : GOk P w K mg base CX0 4 "_law_drawn" (sp_x_law_drawn K) := by
  refine T.d_x_law_drawn.ok sc_x_law_drawn (fun vs H Q E h => ?len) (fun f cdv A outer s H vs Q E hr h => ?_)
  case len => obtain ⟨r, tot, most, rfl, _⟩ := h; rfl
  · obtain ⟨r, tot, most, rfl, row, h1, h2, h3, k⟩ := h
    refine ⟨_, (pss_cons (ps_if (PW.pt (pw_or (pt_cmpR (eqK (K := K) rfl hr.units) (pv 1) pe_int (nomark _)) (pw_or1 (pt_cmpR (eqK (K := K) rfl hr.units) (pe_g (ok_x_law_next (K := K) T) (hr.mono (by decide)) pass0 (pa_cons (pv 0) (pa_cons pe_int pa_nil))) pe_int (nomark _))))) (pss_cons (ps_set (i := 3) sc_x_law_drawn.nd rfl (Or.inl rfl) (pe_g (ok_x_law_word (K := K) T) (hr.mono (by decide)) pass0 (pa_cons (pv 0) pa_nil)))
    (pss_one (ps_ret (pe_tup (pa_cons (pe_tup (pa_cons pe_str (pa_cons (pv 3) pa_nil))) (pa_cons (pe_op (addK (K := K) rfl) (pv 1) (pe_callB (lenK (K := K) rfl) rfl T.n_len (by decide +kernel) (pa_cons (pv 3) pa_nil))) pa_nil))))))
    pss_nil)
    (pss_cons (ps_set (i := 4) sc_x_law_drawn.nd rfl (Or.inl rfl) (pe_g (ok_x_law_next (K := K) T) (hr.mono (by decide)) pass0 (pa_cons (pv 0) (pa_cons (pv 1) pa_nil))))
    (pss_cons (ps_set (i := 5) sc_x_law_drawn.nd rfl (Or.inl rfl) (pe_op (addK (K := K) rfl) (pv 4) (pe_g (ok_x_law_next (K := K) T) (hr.mono (by decide)) pass0 (pa_cons (pv 0) (pa_cons (pe_callB (cMin2 rfl) rfl T.n_min (by decide +kernel) (pa_cons (pe_op op_sub (pv 1) (pv 4)) (pa_cons pe_int pa_nil))) pa_nil)))))
    (pss_cons (ps_set (i := 6) sc_x_law_drawn.nd rfl (Or.inl rfl) (pe_op (addK (K := K) rfl) pe_int (pe_g (ok_x_law_next (K := K) T) (hr.mono (by decide)) pass0 (pa_cons (pv 0) (pa_cons (pv 2) pa_nil)))))
    (pss_one (ps_ret (pe_tup (pa_cons (pe_tup (pa_cons pe_str (pa_cons (pv 4) (pa_cons (pv 5) (pa_cons (pv 6) pa_nil))))) (pa_cons (pe_op (addK (K := K) rfl) (pv 1) (pe_op oMul (pe_op (addK (K := K) rfl) (pe_op op_sub (pv 5) (pv 4)) pe_int) (pv 6))) pa_nil))))))))), ?_⟩
    refine rd_startE (show start N_x_law_drawn [.ref r, .int (tot : Nat), .int (most : Nat)] = [some (.ref r), some (.int (tot : Nat)), some (.int (most : Nat)), none, none, none, none] from rfl) ?_
    walk_at "rdS_Fa"
    refine rd_ifOr (fun Hc => Kp H Hc ∧ RowAt K Hc r) (fun Hc ⟨kc, rowc⟩ => ?_) (fun join => ?_)
    · walk_at "rd_Fa"
      refine rd_wordD rowc fun x H1 hx k1 row1 => ?_
      have wz : x.length ≤ sizeLine := str_small (Nat.le_trans hx.2.1 (by decide))
      walk_at "rd_Fa"
      intro q2 H2 S2 e2 _
      walk_at "rd_Fa"
      refine rd_len_str wz ?_
      walk_at "rd_Fa"
      intro q3 H3 S3 e3 _
      have hx2 := hx.2.1
      exact k q3 (.ref q2) (.wr x) H3 (kc.trans (k1.trans (Kp.same (S2.trans S3)))) (row1.mono (S2.trans S3)) (by rw [e3, Int.natCast_add]; rfl) (StepAt.wrN (S3 _ _ e2)) (hx.step (by decide)) (by show x.length ≤ _; omega) (okL1.wr hx)
    · walk_at "rd_Fa"
      refine rd_ite (fun h0 => join _ ⟨Kp.refl, row⟩) (fun h0 => ?_)
      walk_at "rd_Fa"
      refine rd_nextD row (by decide) (by decide) fun n H2 hn k2 row2 => ?_
      walk_at "rd_Fa"
      refine rd_ite (fun h2 => by have := join _ ⟨k2, row2⟩; rwa [if_pos rfl] at this) (fun h2 => ?_)
      clear join
      walk_at "rd_Fa"
      refine rd_nextD row2 (by omega) (by omega) fun fi H3 hfi k3 row3 => ?_
      walk_at "rd_Fa"
      rw [show (if (6 : Int) < ((tot : Nat) : Int) - (fi : Nat) then 6 else ((tot : Nat) : Int) - (fi : Nat)) = ((min 6 (tot - fi) : Nat) : Int) by split <;> omega]
      refine rd_nextD row3 (by omega) (by omega) fun la H4 hla k4 row4 => ?_
      walk_at "rd_Fa"
      refine rd_nextD row4 (by omega) (by omega) fun ti H5 hti k5 row5 => ?_
      walk_at "rd_Fa"
      rw [show ((fi : Nat) : Int) + (la : Nat) = ((fi + la : Nat) : Int) by omega, show (1 : Int) + (ti : Nat) = ((1 + ti : Nat) : Int) by omega]
      intro q6 H6 S6 e6 _
      walk_at "rd_Fa"
      have el : ((fi + la : Nat) : Int) - (fi : Nat) + 1 = ((fi + la - fi + 1 : Nat) : Int) := by omega
      rw [el]
      refine rd_mul_int (.inr ⟨by omega, by omega⟩) ?_
      rw [← Int.natCast_mul]
      walk_at "rd_Fa"
      intro q7 H7 S7 e7 _
      have hb : (fi + la - fi + 1) * (1 + ti) ≤ 6 * most := Nat.mul_le_mul (by omega) (by omega)
      exact k q7 (.ref q6) (.pa fi (fi + la) (1 + ti)) H7 (k2.trans (k3.trans (k4.trans (k5.trans (Kp.same (S6.trans S7)))))) (row5.mono (S6.trans S7)) (by rw [e7, Int.natCast_add]; rfl) (StepAt.paN (S7 _ _ e6)) ⟨by omega, by omega, by omega, by omega⟩ hb okL1.pa
end
section
variable {P : Program} {w : World} {K : PySem.W.Frag} {mg : Str → Option Value} {base : Heap} {CText CPart CEditor CKeyReader CTextError CInvalidStep CInvalidOperation CDecodeError CNotationError CTooLong CInvalidPlace CInvalidLetter CContradiction CInvalidCount c_x_law_learned p_x_law_learned c_law p_law : Addr}
theorem ok_x_law_made (T : Txt K mg CText CPart CEditor CKeyReader CTextError CInvalidStep CInvalidOperation CDecodeError CNotationError CTooLong CInvalidPlace CInvalidLetter CContradiction CInvalidCount c_x_law_learned p_x_law_learned c_law p_law) : GOk P w K mg base CX0 9 "_law_made" (sp_x_law_made K CText CPart) := by
  refine T.d_x_law_made.ok sc_x_law_made (fun vs H Q E h => ?len) (fun f cdv A outer s H vs Q E hr h => ?_)
  case len => obtain ⟨a, ms, ss, rfl, _⟩ := h; rfl
  · obtain ⟨a, ms, ss, rfl, hq, hs, ok, few, k⟩ := h
    refine ⟨_, (pss_one (ps_ret (pe_p (pe_c (pe_glob (v := .ref CEditor) rfl T.g_Editor rfl) (ok_Editor_replay (K := K) T) (hr.mono (by decide)) pass0 (pa_cons (pe_callTy (tupK (K := K) rfl) rfl T.n_tuple (by decide +kernel) (pa_cons (pv 0) pa_nil)) (pa_cons (pe_lst pa_nil) pa_nil))) T.cEditor (ok_Editor_present_text (K := K) T) (hr.mono (by decide)) pass0))), ?_⟩
    refine rd_startE (show start N_x_law_made [.ref a] = [some (.ref a)] from rfl) ?_
    walk_at "rd_Fa"
    refine rd_tupLS hq hs fun p H1 S1 t1 => ?_
    walk_at "rd_Fa"
    intro l2 H2 S2 e2 _
    walk_at "rd_Fa"
    refine rd_edRep0 (t1.kp (.same S2)) e2 ok few fun H3 e S3 _ ed => ?_
    refine rd_edPT ed fun b TB => ?_
    exact k b H3 (S1.trans (S2.trans S3)) TB
end
section
variable {P : Program} {w : World} {K : PySem.W.Frag} {mg : Str → Option Value} {base : Heap} {CText CPart CEditor CKeyReader CTextError CInvalidStep CInvalidOperation CDecodeError CNotationError CTooLong CInvalidPlace CInvalidLetter CContradiction CInvalidCount c_x_law_learned p_x_law_learned c_law p_law : Addr}
theorem ok_x_law_some (T : Txt K mg CText CPart CEditor CKeyReader CTextError CInvalidStep CInvalidOperation CDecodeError CNotationError CTooLong CInvalidPlace CInvalidLetter CContradiction CInvalidCount c_x_law_learned p_x_law_learned c_law p_law) : GOk P w K mg base CX0 5 "_law_some" (sp_x_law_some K) := by
  refine T.d_x_law_some.ok sc_x_law_some (fun vs H Q E h => ?len) (fun f cdv A outer s H vs Q E hr h => ?_)
  case len => obtain ⟨r, count, most, rfl, _⟩ := h; rfl
  · obtain ⟨r, count, most, rfl, row, h1, h2, h3, k⟩ := h
    refine ⟨_, (pss_cons (ps_set (i := 3) sc_x_law_some.nd rfl (Or.inl rfl) (pe_g (ok_x_law_word (K := K) T) (hr.mono (by decide)) pass0 (pa_cons (pv 0) pa_nil)))
    (pss_cons (ps_par (i := 4) (j := 5) rfl sc_x_law_some.nd rfl rfl (by decide) rfl rfl (pa_cons (pe_lst (pa_cons (pe_tup (pa_cons pe_str (pa_cons (pv 3) pa_nil))) pa_nil)) (pa_cons (pe_callB (lenK (K := K) rfl) rfl T.n_len (by decide +kernel) (pa_cons (pv 3) pa_nil)) pa_nil)) rfl)
    (pss_cons (ps_for PassesOwn.never rfl (pi_range1 rfl T.n_range (pa_cons (pe_g (ok_x_law_next (K := K) T) (hr.mono (by decide)) pass0 (pa_cons (pv 0) (pa_cons (pe_op (addK (K := K) rfl) (pv 1) pe_int) pa_nil))) pa_nil)) (pg_name (i := 6) sc_x_law_some.nd rfl (Or.inl rfl)) (pss_cons (ps_asg (pe_g (ok_x_law_drawn (K := K) T) (hr.mono (by decide)) pass0 (pa_cons (pv 0) (pa_cons (pv 5) (pa_cons (pv 2) pa_nil)))) (pg_tupK (K := K) (n := 2) rfl rfl (pgs_cons (pg_name (i := 7) sc_x_law_some.nd rfl (Or.inl rfl)) (pgs_cons (pg_name (i := 5) sc_x_law_some.nd rfl (Or.inl rfl)) pgs_nil))))
    (pss_one (ps_expr (pe_bmK (K := K) rfl PySem.F.plainAttrs_list PySem.F.slot_list_append PySem.F.type_list_append mt_append (pv 4) (pa_cons (pv 7) pa_nil))))))
    (pss_one (ps_ret (pv 4)))))), ?_⟩
    refine rd_startE (show start N_x_law_some [.ref r, .int (count : Nat), .int (most : Nat)] = [some (.ref r), some (.int (count : Nat)), some (.int (most : Nat)), none, none, none, none, none] from rfl) ?_
    walk_at "rd_Fa"
    refine rd_wordD row fun x H1 hx k1 row1 => ?_
    have wz : x.length ≤ sizeLine := str_small (Nat.le_trans hx.2.1 (by decide))
    walk_at "rd_Fa"
    intro q2 H2 S2 e2 _
    walk_at "rd_Fa"
    intro l H3 S3 e3 n3
    walk_at "rd_Fa"
    refine rd_len_str wz ?_
    walk_at "rd_Fa"
    have row2 := row1.mono S2
    have nl : r ≠ l := row2.ne n3
    have hx2 := hx.2.1
    have hx1 := hx.1
    refine rd_nextD (row2.mono S3) (by omega) (by omega) fun n H4 hn k4 row4 => ?_
    walk_at "rd_Fa"
    refine ⟨_, rfl, by omega, by omega, for_range (n := n) (fun i σ H' => ∃ v6 v7 ms ss, σ = [some (.ref r), some (.int (count : Nat)), some (.int (most : Nat)), some (.str x), some (.ref l), some (.int (sz ss : Nat)), v6, v7] ∧ Kp H2 H' ∧ RowAt K H' r ∧ H' l = some (.lst ms) ∧ StepsAt K H' ms ss ∧ okFrom 0 ss ∧ 1 ≤ sz ss ∧ ss.length = i + 1 ∧ sz ss ≤ (i + 1) * (6 * most) ∧ okLs ss)
      ⟨_, _, [.ref q2], [.wr x], by rfl, (Kp.same S3).trans k4, row4, k4 _ _ (nr_refs fun v hv => by rw [List.mem_singleton.mp hv]; rfl) e3, (StepsAt.one (StepAt.wrN (S3 _ _ e2))).kp k4, ⟨hx.step (by decide), by show 0 + x.length ≤ _; omega, trivial⟩, by show 1 ≤ x.length + 0; omega, rfl, by show x.length + 0 ≤ _; omega, okLs.snoc okLs.nil (okL1.wr hx)⟩ ?_ ?_⟩
    · rintro i σ H5 hi ⟨v6, v7, ms, ss, rfl, k5, row5, e5, st5, ok, z1, len, zb, L⟩
      have hB : (i + 1) * (6 * most) ≤ 21 * (6 * 1000000000) := Nat.mul_le_mul (by omega) (by omega)
      walk_at "rd_Fa"
      refine rd_drawn row5 (by omega) (by omega) (by omega) (by omega) fun p v s H6 k6 row6 e6 sa o1 le lt => ?_
      refine rd_gtup (SqT.of e6) rfl ?_
      walk_at "rd_Fa"
      have e7 := k6 _ _ (nr_refs st5.refs) e5
      refine rd_tyL (SqL.of e7) _ ?_
      walk_at "rd_Fa"
      refine rd_append e7 (by rw [sizeLine_eq, st5.1]; omega) ?_
      walk_at "rd_Fa"
      rw [Int.toNat_natCast] at o1
      have k7 : Kp H2 (upd H6 l (.lst (ms ++ [v]))) := Kp.mut (k5.trans k6) n3
      exact ⟨_, _, ms ++ [v], ss ++ [s], by rw [sz_snoc, Int.natCast_add]; rfl, k7, row2.via k7 row6 (upd_ne nl), upd_same, ((st5.kp k6).snoc sa).updL e7, ok_snoc ok o1 (by omega), by rw [sz_snoc]; omega, by rw [List.length_append, List.length_singleton, len], by rw [sz_snoc, Nat.succ_mul (i + 1)]; omega, L.snoc lt⟩
    · rintro σ H5 ⟨v6, v7, ms, ss, rfl, k5, row5, e5, st5, ok, z1, len, zb, L⟩
      walk_at "rd_Fa"
      exact k l ms ss H5 (k1.trans ((Kp.same S2).trans k5)) row5 e5 st5 ok z1 (by omega) (Nat.le_trans zb (Nat.mul_le_mul_right _ (by omega))) L
end
local macro_rules | `(tactic| walk_at "rd1_hid1") => `(tactic| walk_at "rd1_Fa")
local macro_rules | `(tactic| walk_at "rd_hid1") => `(tactic| repeat walk_at "rd1_hid1")
local macro_rules | `(tactic| walk_at "rdS_hid1") => `(tactic| repeat ((fail_if_success with_reducible show tIfS _ _ _ _ _ _); walk_at "rd1_hid1"))
local macro_rules | `(tactic| walk_at "rd1_hid1") => `(tactic| first
  | with_reducible refine rd_listRg ?_ | with_reducible refine rd_dsetd ?_
  | ((with_reducible refine' rd_insRd ?k1 ?k2 ?_); (case k1 => assumption); (case k2 => decide +kernel))
  | ((with_reducible refine' rd_rdHead ?k1 ?k2 ?_); (case k1 => assumption); (case k2 => omega)))
section
variable {P : Program} {w : World} {K : PySem.W.Frag} {mg : Str → Option Value} {base : Heap} {CText CPart CEditor CKeyReader CTextError CInvalidStep CInvalidOperation CDecodeError CNotationError CTooLong CInvalidPlace CInvalidLetter CContradiction CInvalidCount c_x_law_learned p_x_law_learned c_law p_law : Addr}
theorem ok_KeyReader_init (T : Txt K mg CText CPart CEditor CKeyReader CTextError CInvalidStep CInvalidOperation CDecodeError CNotationError CTooLong CInvalidPlace CInvalidLetter CContradiction CInvalidCount c_x_law_learned p_x_law_learned c_law p_law) : KOk P w K mg base CX0 3 CKeyReader (sp_KeyReader_init K CText CPart CKeyReader) := by
  refine T.d_KeyReader_init.ok sc_KeyReader_init (fun vs H Q E h => ?len) (fun f cdv A outer s H vs Q E hr h => ?_)
  case len => obtain ⟨x, dx, t, ss, rfl, _⟩ := h; rfl
  · obtain ⟨x, dx, t, ss, rfl, hx, tx, k⟩ := h
    refine ⟨_, (pss_cons (ps_fld (pv 0) (pv 1) rfl)
    (pss_cons (ps_fld (pv 0) (pe_listRg rfl rfl T.n_list (prg_1 rfl T.n_range (pe_callB (lenK (K := K) rfl) rfl T.n_len (by decide +kernel) (pa_cons (pe_p (pv 1) T.cText (ok_Text_typed_keys (K := K) T) (hr.mono (by decide)) pass0) pa_nil)))) rfl)
    (pss_cons (ps_fld (pv 0) pe_dnewK rfl)
    (pss_one (ps_fld (pv 0) (pe_tup pa_nil) rfl))))), ?_⟩
    refine rd_startE (show start N_KeyReader_init [.ref x, .ref t] = [some (.ref x), some (.ref t)] from rfl) ?_
    have n1 := T.ne_Text_KeyReader
    have n2 := T.ne_Part_KeyReader
    have nk := tyL_small tx.ok
    have few := tx.few
    walk_at "rd_hid1"
    refine rd_edset hx T.cKeyReader T.na_KeyReader_source_text (by decide) fun H1 b1 e1 => ?_
    have tx1 := tx.km n1 n2 (Km.but (T := []) b1 hx)
    walk_at "rd_hid1"
    refine ⟨RgOk.of_le (by omega) (by omega) (by omega) (by omega), fun hl hh => ?_⟩
    rw [rgV_zero]
    have S2 : Same H1 (upd H1 hl (.lst (natV (List.range (tyL ss).length)))) := Same.new (Same.refl _) hh
    have e2 : upd H1 hl (.lst (natV (List.range (tyL ss).length))) hl = some (.lst (natV (List.range (tyL ss).length))) := upd_same
    revert S2 e2
    generalize upd H1 hl (.lst (natV (List.range (tyL ss).length))) = H2
    intro S2 e2
    walk_at "rd_hid1"
    refine rd_edset (S2 _ _ e1) T.cKeyReader T.na_KeyReader_heads (Nat.lt_of_le_of_lt (putF_len (k := 0) (by decide)) (by decide)) fun H3 b3 e3 => ?_
    walk_at "rd_hid1"
    refine fun d hd => ?_
    have S4 : Same H3 (upd H3 d (.dK [])) := Same.new (Same.refl _) hd
    have e4 : upd H3 d (.dK []) d = some (.dK []) := upd_same
    revert S4 e4
    generalize upd H3 d (.dK []) = H4
    intro S4 e4
    walk_at "rd_hid1"
    refine rd_edset (S4 _ _ e3) T.cKeyReader T.na_KeyReader_letters (Nat.lt_of_le_of_lt (putF_len (k := 1) (putF_len (k := 0) (by decide))) (by decide)) fun H5 b5 e5 => ?_
    walk_at "rd_hid1"
    intro q6 H6 S6 e6 _
    walk_at "rd_hid1"
    refine rd_edset (S6 _ _ e5) T.cKeyReader T.na_KeyReader_seen (Nat.lt_of_le_of_lt (putF_len (k := 2) (putF_len (k := 1) (putF_len (k := 0) (by decide)))) (by decide)) fun H7 b7 e7 => ?_
    rw [rdF_made] at e7
    walk_at "rd_hid1"
    have m67 : Km CKeyReader [] H6 H7 := Km.but b7 (S6 _ _ e5)
    have m47 : Km CKeyReader [] H4 H7 := ((Km.but b5 (S4 _ _ e3)).trans (.same S6)).trans m67
    have m27 : Km CKeyReader [] H2 H7 := ((Km.but b3 (S2 _ _ e1)).trans (.same S4)).trans m47
    have m17 : Km CKeyReader [] H1 H7 := (Km.same S2).trans m27
    have hx1 : hl ≠ x := fun z => by subst z; rw [hh] at e1; cases e1
    have hd1 : d ≠ x := fun z => by subst z; rw [hd] at e3; cases e3
    have hH : H hl = none := by
      cases e : H hl with
      | none => rfl
      | some o => rw [b1 _ _ hx1 e] at hh; cases hh
    have B3 : But x H H3 := (b1.trans (.same S2)).trans b3
    have dH : H d = none := by
      cases e : H d with
      | none => rfl
      | some o => rw [B3 _ _ hd1 e] at hd; cases hd
    have hdl : hl ≠ d := fun z => by subst z; rw [b3 _ _ hx1 e2] at hd; cases hd
    exact k _ hl d ((B3.trans (.same S4)).trans ((b5.trans (.same S6)).trans b7)) hH dH hx1 hd1 hdl ⟨⟨dx, t, q6, [], List.range (tyL ss).length⟩, e7, tx1.km n1 n2 m17, m27.li nr_natV e2, m47.keep _ _ id (fun _ z => nomatch z) (fun _ _ z => nomatch z) e4, m67.tup (SqT.of e6), .nil, Rt.start _, List.length_range, .nil⟩
end
section
variable {P : Program} {w : World} {K : PySem.W.Frag} {mg : Str → Option Value} {base : Heap} {CText CPart CEditor CKeyReader CTextError CInvalidStep CInvalidOperation CDecodeError CNotationError CTooLong CInvalidPlace CInvalidLetter CContradiction CInvalidCount c_x_law_learned p_x_law_learned c_law p_law : Addr}
theorem ok_KeyReader_head (T : Txt K mg CText CPart CEditor CKeyReader CTextError CInvalidStep CInvalidOperation CDecodeError CNotationError CTooLong CInvalidPlace CInvalidLetter CContradiction CInvalidCount c_x_law_learned p_x_law_learned c_law p_law) : MOk P w K mg base CX0 1 CKeyReader "head" (sp_KeyReader_head K CText CPart CKeyReader) := by
  refine T.d_KeyReader_head.ok sc_KeyReader_head (fun vs H Q E h => ?len) (fun f cdv A outer s H vs Q E hr h => ?_)
  case len => obtain ⟨x, h', d, ss, f, ls, ob, k, rfl, _⟩ := h; rfl
  · obtain ⟨x, hl, d, ss, f, ls, ob, k0, rfl, ⟨i, r⟩, hk, q⟩ := h
    refine ⟨_, (pss_cons (ps_while PassesOwn.never (pt_cmpR (neK (K := K) rfl hr.units) (pe_ix (ixK (K := K) rfl) (pe_fldK (K := K) rfl (pv 0) (by rfl)) (pv 1) (fun _ _ => rfl)) (pv 1) (nomark _)) (pss_one (ps_set (i := 1) sc_KeyReader_head.nd rfl (Or.inl rfl) (pe_ix (ixK (K := K) rfl) (pe_fldK (K := K) rfl (pv 0) (by rfl)) (pv 1) (fun _ _ => rfl)))))
    (pss_one (ps_ret (pv 1)))), ?_⟩
    refine rd_startE (show start N_KeyReader_head [.ref x, .int (k0 : Nat)] = [some (.ref x), some (.int (k0 : Nat))] from rfl) ?_
    have hn := r.len
    have el := r.hl
    have nk := r.ok
    walk_at "rd_hid1"
    refine rd_while (fun m σ H' => ∃ k : Nat, σ = [some (.ref x), some (.int (k : Nat))] ∧ H' = H ∧ k < (tyL ss).length ∧ f k = f k0 ∧ m = k) ⟨k0, k0, rfl, rfl, hk, rfl, rfl⟩ ?_
    rintro m σ H' ⟨k, rfl, rfl, hk', ef, rfl⟩
    have hle := r.rt.le m (by omega)
    have hrt := r.rt.root m (by omega)
    have hst := r.rt.step m (by omega)
    walk_at "rd_hid1"
    refine rd_fld_at r.ins T.cKeyReader T.na_KeyReader_heads rdF_heads ?_
    walk_at "rd_hid1"
    rw [Int.toNat_natCast]
    obtain ⟨m', em⟩ : ∃ m', i.hs[m]?.getD 0 = m' := ⟨_, rfl⟩
    rw [em] at hle hrt hst ⊢
    refine rd_iteN (fun z => ?_) (fun z => ?_)
    · refine ⟨fun σ' H2 => ∃ m2, m2 < m ∧ ∃ k : Nat, σ' = [some (.ref x), some (.int (k : Nat))] ∧ H2 = H' ∧ k < (tyL ss).length ∧ f k = f k0 ∧ m2 = k, fun _ _ z => z, ?_⟩
      walk_at "rd_hid1"
      refine rd_fld_at r.ins T.cKeyReader T.na_KeyReader_heads rdF_heads ?_
      walk_at "rd_hid1"
      rw [Int.toNat_natCast, em]
      exact ⟨m', by omega, m', rfl, rfl, by omega, by omega, rfl⟩
    · walk_at "rd_hid1"
      have e : f m = m := hrt (by omega)
      rw [show m = f k0 by omega]
      exact q
end
section
variable {P : Program} {w : World} {K : PySem.W.Frag} {mg : Str → Option Value} {base : Heap} {CText CPart CEditor CKeyReader CTextError CInvalidStep CInvalidOperation CDecodeError CNotationError CTooLong CInvalidPlace CInvalidLetter CContradiction CInvalidCount c_x_law_learned p_x_law_learned c_law p_law : Addr}
theorem ok_KeyReader_known_count (T : Txt K mg CText CPart CEditor CKeyReader CTextError CInvalidStep CInvalidOperation CDecodeError CNotationError CTooLong CInvalidPlace CInvalidLetter CContradiction CInvalidCount c_x_law_learned p_x_law_learned c_law p_law) : MOk P w K mg base CX0 2 CKeyReader "known_count" (sp_KeyReader_known_count K CText CPart CKeyReader) := by
  refine T.d_KeyReader_known_count.ok sc_KeyReader_known_count (fun vs H Q E h => ?len) (fun f cdv A outer s H vs Q E hr h => ?_)
  case len => obtain ⟨x, h', d, ss, f, ls, ob, rfl, _⟩ := h; rfl
  · obtain ⟨x, hl, d, ss, f, ls, ob, rfl, ⟨i, r⟩, q⟩ := h
    refine ⟨_, (pss_one (ps_ret (pe_callB (lenK (K := K) rfl) rfl T.n_len (by decide +kernel) (pa_cons (pe_lc (own := [("key", 1)]) rfl sc_KeyReader_known_count.nd (pi_range1 rfl T.n_range (pa_cons (pe_callB (lenK (K := K) rfl) rfl T.n_len (by decide +kernel) (pa_cons (pe_fldK (K := K) rfl (pv 0) (by rfl)) pa_nil)) pa_nil)) (blkOk_by (own := [("key", 1)]) (N := N_KeyReader_known_count) (sc := (defScope s_KeyReader_known_count)) (by first | decide +kernel | rfl)) (fun _ _ _ _ _ => (pg_name (i := 1) sc_KeyReader_known_count.nd rfl (Or.inl rfl))) (fun _ _ _ _ _ => (pts_one (pt_cmp (pc_din (hu_of hr) (pe_m (pv 0) T.cKeyReader (ok_KeyReader_head (K := K) T) (hr.mono (by decide)) pass0 (pa_cons (pv 1) pa_nil)) (pe_fldK (K := K) rfl (pv 0) (by rfl)))))) (fun _ _ _ _ _ => (pv 1))) pa_nil)))), ?_⟩
    refine rd_startE (show start N_KeyReader_known_count [.ref x] = [some (.ref x), none] from rfl) ?_
    have hn := r.len
    have el := r.hl
    have nk := r.ok
    walk_at "rd_hid1"
    refine rd_fld_at r.ins T.cKeyReader T.na_KeyReader_heads rdF_heads ?_
    walk_at "rd_hid1"
    rw [hn]
    refine ⟨_, rfl, by omega, by omega, fun D hD => lc_filt (f := fun k => .int (0 + (k : Nat))) (p := fun k => (gL ls (f k)).isSome) (n := (tyL ss).length) (it := fun i => .int (0 + (i : Nat))) (by rw [Int.toNat_natCast]; exact plain_rng) hD (by rw [sizeLine_eq]; omega) (fun _ => rfl) (fun k H1 R1 hk S1 qq => ?_) (fun k H1 Q1 hk hp S1 qq => ?_) fun H1 S1 eD => ?_⟩
    · have r1 := r.same S1
      rw [show (0 : Int) + (k : Nat) = (k : Nat) by omega]
      walk_at "rd_hid1"
      refine rd_din ?_
      walk_at "rd_hid1"
      refine rd_fld_at r1.ins T.cKeyReader T.na_KeyReader_letters rdF_letters ?_
      refine ⟨d, _, rfl, kvM_dget r1.dl (f k), ?_⟩
      walk_at "rd_hid1"
      rw [Option.isSome_map]
      exact qq _ (Same.refl _)
    · walk_at "rd_hid1"
      exact qq _ (Same.refl _)
    · walk_at "rd_hid1"
      refine rd_lenL eD ?_
      rw [List.length_map]
      exact q _ S1
end
section
variable {P : Program} {w : World} {K : PySem.W.Frag} {mg : Str → Option Value} {base : Heap} {CText CPart CEditor CKeyReader CTextError CInvalidStep CInvalidOperation CDecodeError CNotationError CTooLong CInvalidPlace CInvalidLetter CContradiction CInvalidCount c_x_law_learned p_x_law_learned c_law p_law : Addr}
theorem ok_KeyReader_known_letters (T : Txt K mg CText CPart CEditor CKeyReader CTextError CInvalidStep CInvalidOperation CDecodeError CNotationError CTooLong CInvalidPlace CInvalidLetter CContradiction CInvalidCount c_x_law_learned p_x_law_learned c_law p_law) : POk P w K mg base CX0 2 CKeyReader "known_letters" (sp_KeyReader_known_letters K CText CPart CKeyReader) := by
  refine T.d_KeyReader_known_letters.ok sc_KeyReader_known_letters (fun vs H Q E h => ?len) (fun f cdv A outer s H vs Q E hr h => ?_)
  case len => obtain ⟨x, h', d, ss, f, ls, ob, rfl, _⟩ := h; rfl
  · obtain ⟨x, hl, d, ss, f, ls, ob, rfl, ⟨i, r⟩, q⟩ := h
    refine ⟨_, (pss_cons (ps_setLc (i := 1) (own := [("key", 2)]) rfl sc_KeyReader_known_letters.nd rfl rfl (sw_true rfl rfl rfl (by decide +kernel)) (pi_range1 rfl T.n_range (pa_cons (pe_callB (lenK (K := K) rfl) rfl T.n_len (by decide +kernel) (pa_cons (pe_fldK (K := K) rfl (pv 0) (by rfl)) pa_nil)) pa_nil)) (blkOk_by (own := [("key", 2)]) (N := N_KeyReader_known_letters) (sc := (defScope s_KeyReader_known_letters)) (by first | decide +kernel | rfl)) (fun _ _ _ _ _ => (pg_name (i := 2) sc_KeyReader_known_letters.nd rfl (Or.inl rfl))) (fun _ _ _ _ _ => pts_nil) (fun _ _ _ _ _ => (pe_tup (pa_cons (pv 2) (pa_cons (pe_m (pv 0) T.cKeyReader (ok_KeyReader_head (K := K) T) (hr.mono (by decide)) pass0 (pa_cons (pv 2) pa_nil)) pa_nil)))))
    (pss_one (ps_ret (pe_dc (own := [("key", 2), ("head", 3)]) rfl sc_KeyReader_known_letters.nd (pi_listK (K := K) rfl (pv 1)) (blkOk_by (own := [("key", 2), ("head", 3)]) (N := N_KeyReader_known_letters) (sc := (defScope s_KeyReader_known_letters)) (by first | decide +kernel | rfl)) (fun _ _ _ _ _ => (pg_tupK (K := K) (n := 2) rfl rfl (pgs_cons (pg_name (i := 2) sc_KeyReader_known_letters.nd rfl (Or.inl rfl)) (pgs_cons (pg_name (i := 3) sc_KeyReader_known_letters.nd rfl (Or.inl rfl)) pgs_nil)))) (fun _ _ _ _ _ => (pts_one (pt_cmp (pc_din (hu_of hr) (pv 3) (pe_fldK (K := K) rfl (pv 0) (by rfl)))))) (fun _ _ _ _ _ => (pv 2)) (fun _ _ _ _ _ => (pe_dget (hu_of hr) (pe_fldK (K := K) rfl (pv 0) (by rfl)) (pv 3) (fun _ _ => rfl))))))), ?_⟩
    refine rd_startE (show start N_KeyReader_known_letters [.ref x] = [some (.ref x), none, none, none] from rfl) ?_
    have hn := r.len
    have el := r.hl
    have nk := r.ok
    walk_at "rd_hid1"
    refine rd_fld_at r.ins T.cKeyReader T.na_KeyReader_heads rdF_heads ?_
    walk_at "rd_hid1"
    rw [hn]
    refine ⟨_, rfl, by omega, by omega, fun D hD => lc_rel (n := (tyL ss).length) (it := fun i => .int (0 + (i : Nat))) (by rw [Int.toNat_natCast]; exact plain_rng) hD (by rw [sizeLine_eq]; omega) (fun _ => rfl) (fun k v H' => ∃ p, v = .ref p ∧ H' p = some (.tup [.int (k : Nat), .int (f k : Nat)])) (fun k y H1 H2 l hk eD B st => ?_) (fun k H1 Q1 hk S1 qq => ?_) fun H1 ys S1 eD hyl ans => ?_⟩
    · obtain ⟨p, rfl, e⟩ := st
      exact ⟨p, rfl, B _ _ (fun z => by subst z; rw [eD] at e; cases e) e⟩
    · have r1 := r.same S1
      rw [show (0 : Int) + (k : Nat) = (k : Nat) by omega]
      walk_at "rd_hid1"
      intro p H2 S2 e2 _
      exact qq _ _ S2 ⟨p, rfl, e2⟩
    · walk_at "rd_hid1"
      refine rd_dc ?_
      walk_at "rd_hid1"
      have r1 := r.same S1
      refine ⟨⟨_, SqL.of eD⟩, fun D2 hD2 => dc_filtG (it := fun i => (ys[i]?).getD .non) (n := (tyL ss).length) (by rw [← hyl]; exact plain_list (SqL.of eD)) hD2 (by rw [sizeLine_eq]; omega)
        (fun k => [some (.ref x), some (.ref D), some (.int (k : Nat)), some (.int (f k : Nat))]) (fun _ => rfl) (fun k H2 R2 hk S2 q2 => ?_) (fun k => (Sum.inl ((k : Nat) : Int) : Key)) (fun k => .str ⟨#[(gL ls (f k)).getD 0]⟩) (fun k => (gL ls (f k)).isSome) (fun i j h1 h2 z => by have := Sum.inl.inj z; omega) (fun k H2 R2 hk S2 q2 => ?_) (fun k H2 Q2 hk hp S2 q2 => ?_) (fun k H2 Q2 hk hp S2 q2 => ?_) fun H2 S2 e2 => ?_⟩
      · obtain ⟨y, ey, p, rfl, ep⟩ := ans k hk
        rw [ey]
        refine rd_gtup (SqT.of (S2 _ _ ep)) rfl ?_
        walk_at "rd_hid1"
        exact q2
      · have r2 := r1.same S2
        walk_at "rd_hid1"
        refine rd_din ?_
        walk_at "rd_hid1"
        refine rd_fld_at r2.ins T.cKeyReader T.na_KeyReader_letters rdF_letters ?_
        refine ⟨d, _, rfl, kvM_dget r2.dl (f k), ?_⟩
        walk_at "rd_hid1"
        rw [Option.isSome_map]
        exact q2 _ (Same.refl _)
      · walk_at "rd_hid1"
        exact q2 _ (Same.refl _)
      · have r2 := r1.same S2
        walk_at "rd_hid1"
        refine rd_dget ?_
        walk_at "rd_hid1"
        refine rd_fld_at r2.ins T.cKeyReader T.na_KeyReader_letters rdF_letters ?_
        walk_at "rd_hid1"
        obtain ⟨c, hc⟩ := Option.isSome_iff_exists.mp hp
        refine ⟨d, .str ⟨#[c]⟩, rfl, ?_, ?_⟩
        · have := kvM_dget r2.dl (f k)
          rw [hc] at this
          exact this
        · have := q2 H2 (Same.refl _)
          rw [hc] at this
          exact this
      · refine q _ D2 (S1.trans S2) ?_ (by rw [knownL_kv]; exact e2)
        cases e : H D2 with
        | none => rfl
        | some o => rw [S1 _ _ e] at hD2; cases hD2
end
section
variable {P : Program} {w : World} {K : PySem.W.Frag} {mg : Str → Option Value} {base : Heap} {CText CPart CEditor CKeyReader CTextError CInvalidStep CInvalidOperation CDecodeError CNotationError CTooLong CInvalidPlace CInvalidLetter CContradiction CInvalidCount c_x_law_learned p_x_law_learned c_law p_law : Addr}
theorem ok_KeyReader_observations (T : Txt K mg CText CPart CEditor CKeyReader CTextError CInvalidStep CInvalidOperation CDecodeError CNotationError CTooLong CInvalidPlace CInvalidLetter CContradiction CInvalidCount c_x_law_learned p_x_law_learned c_law p_law) : POk P w K mg base CX0 1 CKeyReader "observations" (sp_KeyReader_observations K CText CPart CKeyReader) := by
  refine T.d_KeyReader_observations.ok sc_KeyReader_observations (fun vs H Q E h => ?len) (fun f cdv A outer s H vs Q E hr h => ?_)
  case len => obtain ⟨x, h', d, ss, f, ls, ob, rfl, _⟩ := h; rfl
  · obtain ⟨x, hl, d, ss, f, ls, ob, rfl, ⟨i, r⟩, ho, q⟩ := h
    refine ⟨_, (pss_one (ps_ret (pe_callTy (listK (K := K) rfl) rfl T.n_list (by decide +kernel) (pa_cons (pe_fldK (K := K) rfl (pv 0) (by rfl)) pa_nil)))), ?_⟩
    refine rd_startE (show start N_KeyReader_observations [.ref x] = [some (.ref x)] from rfl) ?_
    walk_at "rd_hid1"
    refine rd_fld_at r.ins T.cKeyReader T.na_KeyReader_seen rdF_seen ?_
    walk_at "rd_hid1"
    refine rd_list_tup r.sn fun l hl' => ?_
    exact q _ l i.sm (Same.new (Same.refl _) hl') hl' upd_same (r.obs.mono (Same.new (Same.refl _) hl'))
end
section
variable {P : Program} {w : World} {K : PySem.W.Frag} {mg : Str → Option Value} {base : Heap} {CText CPart CEditor CKeyReader CTextError CInvalidStep CInvalidOperation CDecodeError CNotationError CTooLong CInvalidPlace CInvalidLetter CContradiction CInvalidCount c_x_law_learned p_x_law_learned c_law p_law : Addr}
theorem ok_KeyReader_open_heads (T : Txt K mg CText CPart CEditor CKeyReader CTextError CInvalidStep CInvalidOperation CDecodeError CNotationError CTooLong CInvalidPlace CInvalidLetter CContradiction CInvalidCount c_x_law_learned p_x_law_learned c_law p_law) : MOk P w K mg base CX0 1 CKeyReader "open_heads" (sp_KeyReader_open_heads K CText CPart CKeyReader) := by
  refine T.d_KeyReader_open_heads.ok sc_KeyReader_open_heads (fun vs H Q E h => ?len) (fun f cdv A outer s H vs Q E hr h => ?_)
  case len => obtain ⟨x, h', d, ss, f, ls, ob, rfl, _⟩ := h; rfl
  · obtain ⟨x, hl, d, ss, f, ls, ob, rfl, ⟨i, r⟩, q⟩ := h
    refine ⟨_, (pss_one (ps_ret (pe_lc (own := [("key", 1)]) rfl sc_KeyReader_open_heads.nd (pi_range1 rfl T.n_range (pa_cons (pe_callB (lenK (K := K) rfl) rfl T.n_len (by decide +kernel) (pa_cons (pe_fldK (K := K) rfl (pv 0) (by rfl)) pa_nil)) pa_nil)) (blkOk_by (own := [("key", 1)]) (N := N_KeyReader_open_heads) (sc := (defScope s_KeyReader_open_heads)) (by first | decide +kernel | rfl)) (fun _ _ _ _ _ => (pg_name (i := 1) sc_KeyReader_open_heads.nd rfl (Or.inl rfl))) (fun _ _ _ _ _ => (pts_one (PW.pt (pw_and (pt_cmpR (eqK (K := K) rfl hr.units) (pe_ix (ixK (K := K) rfl) (pe_fldK (K := K) rfl (pv 0) (by rfl)) (pv 1) (fun _ _ => rfl)) (pv 1) (nomark _)) (pw_and1 (pt_cmp (pc_dnotin (hu_of hr) (pv 1) (pe_fldK (K := K) rfl (pv 0) (by rfl))))))))) (fun _ _ _ _ _ => (pv 1))))), ?_⟩
    refine rd_startE (show start N_KeyReader_open_heads [.ref x] = [some (.ref x), none] from rfl) ?_
    have hn := r.len
    have el := r.hl
    have nk := r.ok
    walk_at "rd_hid1"
    refine rd_fld_at r.ins T.cKeyReader T.na_KeyReader_heads rdF_heads ?_
    walk_at "rd_hid1"
    rw [hn]
    refine ⟨_, rfl, by omega, by omega, fun D hD => lc_filt (f := fun k => .int (k : Nat)) (p := fun k => decide (f k = k) && (gL ls k).isNone) (n := (tyL ss).length) (it := fun i => .int (0 + (i : Nat))) (by rw [Int.toNat_natCast]; exact plain_rng) hD (by rw [sizeLine_eq]; omega) (fun _ => rfl) (fun k H1 R1 hk S1 qq => ?_) (fun k H1 Q1 hk hp S1 qq => ?_) fun H1 S1 eD => ?_⟩
    · have r1 := r.same S1
      have el1 := r1.hl
      have hle := r.rt.le k (by omega)
      have hrt := r.rt.root k (by omega)
      obtain ⟨f1, f2, f3⟩ := r.spec hk
      rw [show (0 : Int) + (k : Nat) = (k : Nat) by omega]
      walk_at "rd_hid1"
      refine rd_fld_at r1.ins T.cKeyReader T.na_KeyReader_heads rdF_heads ?_
      walk_at "rd_hid1"
      rw [Int.toNat_natCast]
      refine rd_ite (fun h => ?_) (fun h => ?_)
      · have fk := hrt (by omega)
        walk_at "rd_hid1"
        refine rd_dnotin ?_
        walk_at "rd_hid1"
        refine rd_fld_at r1.ins T.cKeyReader T.na_KeyReader_letters rdF_letters ?_
        refine ⟨d, _, rfl, kvM_dget r1.dl k, ?_⟩
        walk_at "rd_hid1"
        have := qq _ (Same.refl _)
        rw [decide_eq_true fk, Bool.true_and] at this
        rw [show (!((gL ls k).map fun c => V.str ⟨#[c]⟩).isSome) = (gL ls k).isNone by cases gL ls k <;> rfl]
        exact this
      · have fk : f k ≠ k := fun z => by rw [z] at f2; omega
        have := qq _ (Same.refl _)
        rw [decide_eq_false fk, Bool.false_and] at this
        exact this
    · rw [show (0 : Int) + (k : Nat) = (k : Nat) by omega]
      walk_at "rd_hid1"
      exact qq _ (Same.refl _)
    · exact q _ _ S1 hD eD
end
local macro_rules | `(tactic| walk_at "rd1_hid2") => `(tactic| walk_at "rd1_Fa")
local macro_rules | `(tactic| walk_at "rd_hid2") => `(tactic| repeat walk_at "rd1_hid2")
local macro_rules | `(tactic| walk_at "rdS_hid2") => `(tactic| repeat ((fail_if_success with_reducible show tIfS _ _ _ _ _ _); walk_at "rd1_hid2"))
local macro_rules | `(tactic| walk_at "rd1_hid2") => `(tactic| first
  | with_reducible refine rd_listRg ?_ | with_reducible refine rd_dsetd ?_
  | ((with_reducible refine' rd_insRd ?k1 ?k2 ?_); (case k1 => assumption); (case k2 => decide +kernel))
  | ((with_reducible refine' rd_rdHead ?k1 ?k2 ?_); (case k1 => assumption); (case k2 => omega)))
section
variable {P : Program} {w : World} {K : PySem.W.Frag} {mg : Str → Option Value} {base : Heap} {CText CPart CEditor CKeyReader CTextError CInvalidStep CInvalidOperation CDecodeError CNotationError CTooLong CInvalidPlace CInvalidLetter CContradiction CInvalidCount c_x_law_learned p_x_law_learned c_law p_law : Addr}
theorem ok_KeyReader_count_texts (T : Txt K mg CText CPart CEditor CKeyReader CTextError CInvalidStep CInvalidOperation CDecodeError CNotationError CTooLong CInvalidPlace CInvalidLetter CContradiction CInvalidCount c_x_law_learned p_x_law_learned c_law p_law) : MOk P w K mg base CX0 2 CKeyReader "count_texts" (sp_KeyReader_count_texts K CText CPart CKeyReader) := by
  refine T.d_KeyReader_count_texts.ok sc_KeyReader_count_texts (fun vs H Q E h => ?len) (fun f cdv A outer s H vs Q E hr h => ?_)
  case len => obtain ⟨x, h', d, ss, f, ls, ob, rfl, _⟩ := h; rfl
  · obtain ⟨x, hl, d, ss, f, ls, ob, rfl, ⟨i, r⟩, q⟩ := h
    obtain ⟨t_LETTERS, h_LETTERS⟩ := T.k_LETTERS; refine ⟨_, (pss_cons (ps_set (i := 1) sc_KeyReader_count_texts.nd rfl (Or.inl rfl) pe_int)
    (pss_cons (ps_for PassesOwn.never rfl (pi_listK (K := K) rfl (pe_m0 (pv 0) T.cKeyReader (ok_KeyReader_open_heads (K := K) T) (hr.mono (by decide)) pass0)) (pg_name (i := 2) sc_KeyReader_count_texts.nd rfl (Or.inl rfl)) (pss_one (ps_aug (i := 1) sc_KeyReader_count_texts.nd rfl (Or.inl rfl) (pe_callB (lenK (K := K) rfl) rfl T.n_len (by decide +kernel) (pa_cons (pe_glob (v := .str "abcdefghijklmnopqrstuvwxyz") rfl h_LETTERS ⟨_, rfl⟩) pa_nil)) ip_mul)))
    (pss_one (ps_ret (pv 1))))), ?_⟩
    refine rd_startE (show start N_KeyReader_count_texts [.ref x] = [some (.ref x), none, none] from rfl) ?_
    have nk := r.ok
    walk_at "rd_hid2"
    refine ⟨x, hl, d, ss, f, ls, ob, rfl, ⟨i, r⟩, fun H1 p1 S1 n1 e1 => ?_⟩
    refine ⟨p1, rfl, ⟨_, SqL.of e1⟩, for_list (xs := natV (openH f ls (tyL ss).length)) (fun j σ H' => ∃ v2, σ = [some (.ref x), some (.int (26 ^ j : Nat)), v2] ∧ H' = H1) ⟨_, rfl, rfl⟩ (fun j σ H' _ ⟨_, _, e⟩ => e ▸ SqL.of e1) ?_ ?_⟩
    · rintro j v σ H' hv ⟨v2, rfl, rfl⟩
      walk_at "rd_hid2"
      refine rd_len_str (by rw [sizeLine_eq]; decide +kernel) ?_
      rw [show ((Str.ofString "abcdefghijklmnopqrstuvwxyz").length : Nat) = 26 by decide +kernel]
      refine rd_I (Or.inr ⟨by decide, by decide⟩) ?_
      refine ⟨some v, ?_, rfl⟩
      rw [show ((26 ^ (j + 1) : Nat) : Int) = ((26 ^ j : Nat) : Int) * ((26 : Nat) : Int) by rw [Nat.pow_succ, Int.natCast_mul]]
      rfl
    · rintro σ H' ⟨v2, rfl, rfl⟩
      rw [natV_len]
      walk_at "rd_hid2"
      exact q _ S1
end
local macro_rules | `(tactic| walk_at "rd1_hidR") => `(tactic| walk_at "rd1_Fa")
local macro_rules | `(tactic| walk_at "rd_hidR") => `(tactic| repeat walk_at "rd1_hidR")
local macro_rules | `(tactic| walk_at "rdS_hidR") => `(tactic| repeat ((fail_if_success with_reducible show tIfS _ _ _ _ _ _); walk_at "rd1_hidR"))
local macro_rules | `(tactic| walk_at "rd1_hidR") => `(tactic| first
  | with_reducible refine rd_listRg ?_ | with_reducible refine rd_dsetd ?_
  | ((with_reducible refine' rd_insRd ?k1 ?k2 ?_); (case k1 => assumption); (case k2 => decide +kernel))
  | ((with_reducible refine' rd_rdHead ?k1 ?k2 ?_); (case k1 => assumption); (case k2 => omega)))
section
variable {P : Program} {w : World} {K : PySem.W.Frag} {mg : Str → Option Value} {base : Heap} {CText CPart CEditor CKeyReader CTextError CInvalidStep CInvalidOperation CDecodeError CNotationError CTooLong CInvalidPlace CInvalidLetter CContradiction CInvalidCount c_x_law_learned p_x_law_learned c_law p_law : Addr}
theorem okR_KeyReader_accept_letter (T : Txt K mg CText CPart CEditor CKeyReader CTextError CInvalidStep CInvalidOperation CDecodeError CNotationError CTooLong CInvalidPlace CInvalidLetter CContradiction CInvalidCount c_x_law_learned p_x_law_learned c_law p_law) : MOk P w K mg base (L2.CX P w) 4 CKeyReader "accept_letter" (sp_KeyReader_accept_letterR K CText CPart CKeyReader CContradiction) := by
  refine T.d_KeyReader_accept_letter.okX sc_KeyReader_accept_letter (fun vs H Q E h => ?len) (fun f cdv A outer s H vs Q E hr h => ?_)
  case len => obtain ⟨x, h', d, ss, f, ls, ob, k, c, rfl, _⟩ := h; rfl
  · obtain ⟨x, hl, d, ss, f, ls, ob, k, c, rfl, ⟨i, r⟩, hk, h1, h2, q, qE⟩ := h
    refine ⟨_, (pss_cons (ps_set (i := 3) sc_KeyReader_accept_letter.nd rfl (Or.inl rfl) (pe_m (pv 0) T.cKeyReader (ok_KeyReader_head (K := K) T) (hr.mono (by decide)) pass0 (pa_cons (pv 1) pa_nil)))
    (pss_cons (ps_if (pt_cmpR (neK (K := K) rfl hr.units) (pe_dget2 (hu_of hr) (pe_fldK (K := K) rfl (pv 0) (by rfl)) (pv 3) (pv 2) ⟨rfl, rfl, rfl, rfl⟩) (pv 2) (nomark _)) (pss_one (ps_rz T.x_Contradiction (takes_of rfl rfl rfl rfl)))
    pss_nil)
    (pss_one (ps_dput (hu_of hr) (pe_fldK (K := K) rfl (pv 0) (by rfl)) (pv 3) (pv 2) rfl)))), ?_⟩
    refine rd_startE (show start N_KeyReader_accept_letter [.ref x, .int (k : Nat), .str ⟨#[c]⟩] = [some (.ref x), some (.int (k : Nat)), some (.str ⟨#[c]⟩), none] from rfl) ?_
    have nk := r.ok
    obtain ⟨f1, f2, f3⟩ := r.spec hk
    walk_at "rd_hidR"
    refine rd_dget2 ?_
    walk_at "rd_hidR"
    refine rd_fld_at r.ins T.cKeyReader T.na_KeyReader_letters rdF_letters ?_
    refine ⟨_, rfl, .inl ⟨_, .inl r.dl⟩, ?_⟩
    walk_at "rd_hidR"
    refine ⟨_, kvM_dget r.dl (f k), ?_⟩
    walk_at "rd_hidR"
    by_cases hc : ∀ c', gL ls (f k) = some c' → c' = c
    · have e : ((gL ls (f k)).map fun c => V.str ⟨#[c]⟩).getD (.str ⟨#[c]⟩) = .str ⟨#[c]⟩ := by
        cases z : gL ls (f k) with
        | none => rfl
        | some c' => rw [hc c' z]; rfl
      rw [e]
      walk_at "rd_hidR"
      refine rd_dput ?_
      walk_at "rd_hidR"
      refine rd_fld_at r.ins T.cKeyReader T.na_KeyReader_letters rdF_letters ?_
      walk_at "rd_hidR"
      have ll := r.lok.len
      exact ⟨d, _, rfl, kvM_dput r.dl (by omega) (f k) c, q hc _ (But.at But.refl) ⟨i, r.put T.ne_Text_KeyReader T.ne_Part_KeyReader (by omega) h1 h2⟩⟩
    · obtain ⟨c', g, n⟩ : ∃ c', gL ls (f k) = some c' ∧ c' ≠ c := Classical.byContradiction fun z => hc fun c' g => Classical.byContradiction fun n => z ⟨c', g, n⟩
      have e : ((gL ls (f k)).map fun c => V.str ⟨#[c]⟩).getD (.str ⟨#[c]⟩) = .str ⟨#[c']⟩ := by rw [g]; rfl
      rw [e]
      walk_at "rd_hidR"
      rw [decide_eq_false (show ¬ (⟨#[c']⟩ : Str) = ⟨#[c]⟩ from fun z => n (List.cons.inj (show [c'] = [c] from congrArg tl z)).1)]
      walk_at "rd_hidR"
      exact qE c' g n
end
section
variable {P : Program} {w : World} {K : PySem.W.Frag} {mg : Str → Option Value} {base : Heap} {CText CPart CEditor CKeyReader CTextError CInvalidStep CInvalidOperation CDecodeError CNotationError CTooLong CInvalidPlace CInvalidLetter CContradiction CInvalidCount c_x_law_learned p_x_law_learned c_law p_law : Addr}
theorem okR_KeyReader_see (T : Txt K mg CText CPart CEditor CKeyReader CTextError CInvalidStep CInvalidOperation CDecodeError CNotationError CTooLong CInvalidPlace CInvalidLetter CContradiction CInvalidCount c_x_law_learned p_x_law_learned c_law p_law) : MOk P w K mg base (L2.CX P w) 5 CKeyReader "see" (sp_KeyReader_seeR K CText CPart CKeyReader CContradiction) := by
  refine T.d_KeyReader_see.okX sc_KeyReader_see (fun vs H Q E h => ?len) (fun f cdv A outer s H vs Q E hr h => ?_)
  case len => obtain ⟨x, h', d, ss, f, ls, ob, p, c, rfl, _⟩ := h; rfl
  · obtain ⟨x, hl, d, ss, f, ls, ob, p, c, rfl, ⟨i, r⟩, hp, h1, h2, ho, q, qE⟩ := h
    refine ⟨_, (pss_cons (ps_set (i := 3) sc_KeyReader_see.nd rfl (Or.inl rfl) (pe_oF (K := K) rfl (pv 0) (ok_Text_call (K := K) T) (hr.mono (by decide)) pass0 (pa_cons (pv 1) pa_nil)))
    (pss_cons (ps_if (pt_not (pt_val (pe_g (ok_is_letter (K := K) T) (hr.mono (by decide)) pass0 (pa_cons (pv 2) pa_nil)))) (pss_one (ps_rz T.x_InvalidLetter (takes_of rfl rfl rfl rfl)))
    pss_nil)
    (pss_cons (ps_expr (pe_m (pv 0) T.cKeyReader (okR_KeyReader_accept_letter (K := K) T) (hr.mono (by decide)) (passX (takes_of rfl rfl rfl rfl)) (pa_cons (pv 3) (pa_cons (pv 2) pa_nil))))
    (pss_cons (ps_fld (pv 0) (pe_tup (pa_starK (K := K) rfl (pe_fldK (K := K) rfl (pv 0) (by rfl)) (pa_cons (pe_tup (pa_cons pe_str (pa_cons (pv 1) (pa_cons (pv 2) pa_nil)))) pa_nil))) rfl)
    (pss_one (ps_ret (pe_m0 (pv 0) T.cKeyReader (ok_KeyReader_known_count (K := K) T) (hr.mono (by decide)) pass0))))))), ?_⟩
    refine rd_startE (show start N_KeyReader_see [.ref x, .int (p : Nat), .str ⟨#[c]⟩] = [some (.ref x), some (.int (p : Nat)), some (.str ⟨#[c]⟩), none] from rfl) ?_
    have nk := r.ok
    walk_at "rd_hidR"
    refine rd_oF ?_
    walk_at "rd_hidR"
    refine rd_fld_at r.ins T.cKeyReader T.na_KeyReader_source_text rdF_text ?_
    have fw := r.tx.few
    have kl := kat_lt r.tx.ok hp
    refine ⟨_, rfl, ?_⟩
    walk_at "rd_hidR"
    refine rd_oCall r.tx (by omega) (by omega) ?_
    rw [Int.toNat_natCast]
    walk_at "rd_hidR"
    refine rd_isLetter ⟨h1, h2⟩ ?_
    walk_at "rd_hidR"
    refine ⟨x, hl, d, ss, f, ls, ob, kat ss p, c, rfl, ⟨i, r⟩, kl, h1, h2, fun hc H1 b1 ⟨j, r1⟩ => ?_, fun c' g n => qE c' g n _ (Same.refl _)⟩
    walk_at "rd_hidR"
    refine rd_fld_at r1.ins T.cKeyReader T.na_KeyReader_seen rdF_seen ?_
    refine ⟨j.s, j.sm, rfl, .inl r1.sn, ?_⟩
    walk_at "rd_hidR"
    intro q2 H2 S2 e2 _
    have r2 := r1.same S2
    have lo := r1.obs.1
    walk_at "rd_hidR"
    refine rd_new (by rw [sizeLine_eq, List.length_append, List.length_singleton]; omega) fun q3 H3 S3 e3 _ => ?_
    have r3 := r2.same S3
    walk_at "rd_hidR"
    refine rd_edset r3.ins T.cKeyReader T.na_KeyReader_seen rdF_len fun H4 b4 e4 => ?_
    rw [rdF_put] at e4
    have r4 := r3.seen T.ne_Text_KeyReader T.ne_Part_KeyReader b4 e4 (SqT.of e3) (r3.obs.snoc (o := .see p c) (SqT.of (S3 _ _ e2)))
    have B : Bt [x, hl, d] H H4 := ((Bt.but b1 (by simp)).trans (.same (S2.trans S3))).trans (Bt.but b4 (by simp))
    walk_at "rd_hidR"
    exact ⟨x, hl, d, ss, f, _, _, rfl, ⟨_, r4⟩, fun H5 S5 => q hc _ (B.trans (.same S5)) ⟨_, r4.same S5⟩⟩
end
section
variable {P : Program} {w : World} {K : PySem.W.Frag} {mg : Str → Option Value} {base : Heap} {CText CPart CEditor CKeyReader CTextError CInvalidStep CInvalidOperation CDecodeError CNotationError CTooLong CInvalidPlace CInvalidLetter CContradiction CInvalidCount c_x_law_learned p_x_law_learned c_law p_law : Addr}
theorem okR_KeyReader_hear_alike (T : Txt K mg CText CPart CEditor CKeyReader CTextError CInvalidStep CInvalidOperation CDecodeError CNotationError CTooLong CInvalidPlace CInvalidLetter CContradiction CInvalidCount c_x_law_learned p_x_law_learned c_law p_law) : MOk P w K mg base (L2.CX P w) 4 CKeyReader "hear_alike" (sp_KeyReader_hear_alikeR K CText CPart CKeyReader CContradiction) := by
  refine T.d_KeyReader_hear_alike.okX sc_KeyReader_hear_alike (fun vs H Q E h => ?len) (fun f cdv A outer s H vs Q E hr h => ?_)
  case len => obtain ⟨x, h', d, ss, f, ls, ob, p, q, rfl, _⟩ := h; rfl
  · obtain ⟨x, hl, d, ss, f, ls, ob, p, p2, rfl, ⟨i, r⟩, hp, hp2, ho, q0, qE⟩ := h
    refine ⟨_, (pss_cons (ps_par (i := 3) (j := 4) rfl sc_KeyReader_hear_alike.nd rfl rfl (by decide) rfl rfl (pa_cons (pe_m (pv 0) T.cKeyReader (ok_KeyReader_head (K := K) T) (hr.mono (by decide)) pass0 (pa_cons (pe_oF (K := K) rfl (pv 0) (ok_Text_call (K := K) T) (hr.mono (by decide)) pass0 (pa_cons (pv 1) pa_nil)) pa_nil)) (pa_cons (pe_m (pv 0) T.cKeyReader (ok_KeyReader_head (K := K) T) (hr.mono (by decide)) pass0 (pa_cons (pe_oF (K := K) rfl (pv 0) (ok_Text_call (K := K) T) (hr.mono (by decide)) pass0 (pa_cons (pv 2) pa_nil)) pa_nil)) pa_nil)) rfl)
    (pss_cons (ps_asg (pe_ifExp (pt_cmpR op_lt (pv 3) (pv 4) (nomark _)) (pe_tup (pa_cons (pv 3) (pa_cons (pv 4) pa_nil))) (pe_tup (pa_cons (pv 4) (pa_cons (pv 3) pa_nil)))) (pg_tupK (K := K) (n := 2) rfl rfl (pgs_cons (pg_name (i := 5) sc_KeyReader_hear_alike.nd rfl (Or.inl rfl)) (pgs_cons (pg_name (i := 6) sc_KeyReader_hear_alike.nd rfl (Or.inl rfl)) pgs_nil))))
    (pss_cons (ps_if (PW.pt (pw_and (pt_cmp (pc_din (hu_of hr) (pv 5) (pe_fldK (K := K) rfl (pv 0) (by rfl)))) (pw_and (pt_cmp (pc_din (hu_of hr) (pv 6) (pe_fldK (K := K) rfl (pv 0) (by rfl)))) (pw_and1 (pt_cmpR (neK (K := K) rfl hr.units) (pe_dget (hu_of hr) (pe_fldK (K := K) rfl (pv 0) (by rfl)) (pv 5) (fun _ _ => rfl)) (pe_dget (hu_of hr) (pe_fldK (K := K) rfl (pv 0) (by rfl)) (pv 6) (fun _ _ => rfl)) (nomark _)))))) (pss_one (ps_rz T.x_Contradiction (takes_of rfl rfl rfl rfl)))
    pss_nil)
    (pss_cons (ps_if (pt_cmp (pc_din (hu_of hr) (pv 6) (pe_fldK (K := K) rfl (pv 0) (by rfl)))) (pss_one (ps_dput (hu_of hr) (pe_fldK (K := K) rfl (pv 0) (by rfl)) (pv 5) (pe_dget (hu_of hr) (pe_fldK (K := K) rfl (pv 0) (by rfl)) (pv 6) (fun _ _ => rfl)) rfl))
    pss_nil)
    (pss_cons (ps_asg (pv 5) (pg_sub (pe_fldK (K := K) rfl (pv 0) (by rfl)) (pv 6) set_list))
    (pss_cons (ps_fld (pv 0) (pe_tup (pa_starK (K := K) rfl (pe_fldK (K := K) rfl (pv 0) (by rfl)) (pa_cons (pe_tup (pa_cons pe_str (pa_cons (pv 1) (pa_cons (pv 2) pa_nil)))) pa_nil))) rfl)
    (pss_one (ps_ret (pe_m0 (pv 0) T.cKeyReader (ok_KeyReader_count_texts (K := K) T) (hr.mono (by decide)) pass0))))))))), ?_⟩
    refine rd_startE (show start N_KeyReader_hear_alike [.ref x, .int (p : Nat), .int (p2 : Nat)] = [some (.ref x), some (.int (p : Nat)), some (.int (p2 : Nat)), none, none, none, none] from rfl) ?_
    by_cases hc : ∀ c c', gL ls (f (kat ss p)) = some c → gL ls (f (kat ss p2)) = some c' → c = c'
    · have q := q0 hc
      have nk := r.ok
      have tx := r.tx
      have ka := kat_lt tx.ok hp
      have kb := kat_lt tx.ok hp2
      walk_at "rd_hidR"
      refine rd_oF ?_
      walk_at "rd_hidR"
      refine rd_fld_at r.ins T.cKeyReader T.na_KeyReader_source_text rdF_text ?_
      refine ⟨_, rfl, ?_⟩
      walk_at "rd_hidR"
      rw [Int.toNat_natCast]
      walk_at "rd_hidR"
      refine rd_oF ?_
      walk_at "rd_hidR"
      refine rd_fld_at r.ins T.cKeyReader T.na_KeyReader_source_text rdF_text ?_
      refine ⟨_, rfl, ?_⟩
      walk_at "rd_hidR"
      rw [Int.toNat_natCast]
      obtain ⟨a1, a2, a3⟩ := r.spec ka
      obtain ⟨b1, b2, b3⟩ := r.spec kb
      generalize hka : kat ss p = a at *
      generalize hkb : kat ss p2 = b at *
      walk_at "rd_hidR"
      refine rd_ifJ (fun v H' => ∃ q, v = .ref q ∧ Same H H' ∧ H' q = some (.tup [.int (min (f a) (f b) : Nat), .int (max (f a) (f b) : Nat)])) ?_ fun R hR => ?_
      · rintro v H1 ⟨q1, rfl, S1, e1⟩
        refine rd_gtup (SqT.of e1) rfl ?_
        have r1 := r.same S1
        obtain ⟨m, hm, hm1, hm2⟩ : ∃ m, min (f a) (f b) = m ∧ m < (tyL ss).length ∧ (m = f a ∨ m = f b) := ⟨_, rfl, by omega, by omega⟩
        obtain ⟨M, hM, hM1, hM2⟩ : ∃ M, max (f a) (f b) = M ∧ M < (tyL ss).length ∧ ((M = f a ∧ m = f b) ∨ (M = f b ∧ m = f a)) := ⟨_, rfl, by omega, by omega⟩
        have hcc : ∀ c c', gL ls m = some c → gL ls M = some c' → c = c' := fun c c' h1 h2 => by
          rcases hM2 with ⟨e1, e2⟩ | ⟨e1, e2⟩
          · rw [e1] at h2; rw [e2] at h1; exact (hc c' c h2 h1).symm
          · rw [e1] at h2; rw [e2] at h1; exact hc c c' h1 h2
        have hear : hearL f ls a b = match gL ls M with | some c => putL ls m c | none => ls := by unfold hearL; rw [hm, hM] <;> cases gL ls M <;> rfl
        rw [hm, hM]
        walk_at "rdS_hidR"
        refine rd_ifAndJ (fun Hc => Hc = H1) ?_ fun hq => ?_
        · rintro Hc rfl
          walk_at "rdS_hidR"
          refine rd_ifSJ (fun σ' Hc => σ' = [some (.ref x), some (.int (p : Nat)), some (.int (p2 : Nat)), some (.int (f a : Nat)), some (.int (f b : Nat)), some (.int (m : Nat)), some (.int (M : Nat))] ∧ Bt [x, hl, d] H Hc ∧ RdAt K CText CPart CKeyReader Hc x hl d ss f (hearL f ls a b) ob i) ?_ fun nx' hnx => ?_
          · rintro σ' Hc' ⟨rfl, B2, r2⟩
            have hn := r2.len
            walk_at "rd_hidR"
            refine rd_fld_at r2.ins T.cKeyReader T.na_KeyReader_heads rdF_heads ?_
            walk_at "rd_hidR"
            refine rd_setL r2.hl (j := M) (by rw [natV_len]; exact ixN_natx (by omega)) ?_
            have es : (natV i.hs).set M (.int (m : Nat)) = natV (i.hs.set M m) := by unfold natV; rw [List.map_set]
            rw [es]
            have r3 := r2.tie T.ne_Text_KeyReader T.ne_Part_KeyReader ka kb
            rw [hM, hm] at r3
            have B3 : Bt [x, hl, d] H (upd Hc' hl (.lst (natV (i.hs.set M m)))) := B2.trans (Bt.but (But.at But.refl) (by simp))
            revert r3 B3
            generalize upd Hc' hl (.lst (natV (i.hs.set M m))) = H3
            intro r3 B3
            walk_at "rd_hidR"
            refine rd_fld_at r3.ins T.cKeyReader T.na_KeyReader_seen rdF_seen ?_
            refine ⟨i.s, i.sm, rfl, .inl r3.sn, ?_⟩
            walk_at "rd_hidR"
            intro q4 H4 S4 e4 _
            have r4 := r3.same S4
            have lo := r3.obs.1
            have lo : i.sm.length = ob.length := lo
            walk_at "rd_hidR"
            refine rd_new (by rw [sizeLine_eq, List.length_append, List.length_singleton]; omega) fun q5 H5 S5 e5 _ => ?_
            have r5 := r4.same S5
            walk_at "rd_hidR"
            refine rd_edset r5.ins T.cKeyReader T.na_KeyReader_seen rdF_len fun H6 b6 e6 => ?_
            rw [rdF_put] at e6
            have r6 := r5.seen T.ne_Text_KeyReader T.ne_Part_KeyReader b6 e6 (SqT.of e5) (r5.obs.snoc (o := .alike p p2) (SqT.of (S5 _ _ e4)))
            have B6 : Bt [x, hl, d] H H6 := (B3.trans (.same (S4.trans S5))).trans (Bt.but b6 (by simp))
            walk_at "rd_hidR"
            exact ⟨x, hl, d, ss, _, _, _, rfl, ⟨_, r6⟩, fun H7 S7 => q _ (B6.trans (.same S7)) ⟨_, r6.same S7⟩⟩
          · walk_at "rd_hidR"
            refine rd_din ?_
            walk_at "rd_hidR"
            refine rd_fld_at r1.ins T.cKeyReader T.na_KeyReader_letters rdF_letters ?_
            refine ⟨d, _, rfl, kvM_dget r1.dl M, ?_⟩
            walk_at "rd_hidR"
            cases eM : gL ls M with
            | none =>
              rw [eM] at hear
              refine rd_cF rfl ?_
              walk_at "rd_hidR"
              exact hnx _ _ ⟨rfl, Bt.same S1, by rw [hear]; exact r1⟩
            | some cM =>
              rw [eM] at hear
              have lt := r.lok.let eM
              refine rd_cT rfl ?_
              walk_at "rd_hidR"
              refine rd_dput ?_
              walk_at "rd_hidR"
              refine rd_dget ?_
              walk_at "rd_hidR"
              refine rd_fld_at r1.ins T.cKeyReader T.na_KeyReader_letters rdF_letters ?_
              walk_at "rd_hidR"
              refine ⟨d, .str ⟨#[cM]⟩, rfl, ?_, ?_⟩
              · have := kvM_dget r1.dl M
                rw [eM] at this
                exact this
              walk_at "rd_hidR"
              refine rd_fld_at r1.ins T.cKeyReader T.na_KeyReader_letters rdF_letters ?_
              walk_at "rd_hidR"
              have ll := r.lok.len
              exact ⟨d, _, rfl, kvM_dput r1.dl (by omega) m cM, hnx _ _ ⟨rfl, (Bt.same S1).trans (Bt.but (But.at But.refl) (by simp)), by rw [hear]; exact r1.put T.ne_Text_KeyReader T.ne_Part_KeyReader hm1 lt.2.1 lt.2.2⟩⟩
        · walk_at "rd_hidR"
          refine rd_din ?_
          walk_at "rd_hidR"
          refine rd_fld_at r1.ins T.cKeyReader T.na_KeyReader_letters rdF_letters ?_
          refine ⟨d, _, rfl, kvM_dget r1.dl m, ?_⟩
          walk_at "rd_hidR"
          cases em : gL ls m with
          | none =>
            refine rd_cF rfl ?_
            walk_at "rdS_hidR"
            exact hq _ rfl
          | some cm =>
            refine rd_cT rfl ?_
            walk_at "rd_hidR"
            refine rd_din ?_
            walk_at "rd_hidR"
            refine rd_fld_at r1.ins T.cKeyReader T.na_KeyReader_letters rdF_letters ?_
            refine ⟨d, _, rfl, kvM_dget r1.dl M, ?_⟩
            walk_at "rd_hidR"
            cases eM : gL ls M with
            | none =>
              refine rd_cF rfl ?_
              walk_at "rdS_hidR"
              exact hq _ rfl
            | some cM =>
              have ecc := hcc _ _ em eM
              subst ecc
              refine rd_cT rfl ?_
              walk_at "rd_hidR"
              refine rd_dget ?_
              walk_at "rd_hidR"
              refine rd_fld_at r1.ins T.cKeyReader T.na_KeyReader_letters rdF_letters ?_
              walk_at "rd_hidR"
              refine ⟨d, .str ⟨#[cm]⟩, rfl, ?_, ?_⟩
              · have := kvM_dget r1.dl m
                rw [em] at this
                exact this
              walk_at "rd_hidR"
              refine rd_dget ?_
              walk_at "rd_hidR"
              refine rd_fld_at r1.ins T.cKeyReader T.na_KeyReader_letters rdF_letters ?_
              walk_at "rd_hidR"
              refine ⟨d, .str ⟨#[cm]⟩, rfl, ?_, ?_⟩
              · have := kvM_dget r1.dl M
                rw [eM] at this
                exact this
              walk_at "rdS_hidR"
              exact hq _ rfl
      · rcases Nat.lt_or_ge (f a) (f b) with z | z
        · refine rd_dT (by omega) ?_
          walk_at "rd_hidR"
          intro q1 H1 S1 e1 _
          exact hR _ _ ⟨q1, rfl, S1, by rw [Nat.min_eq_left (by omega), Nat.max_eq_right (by omega)]; exact e1⟩
        · refine rd_dF (by omega) ?_
          walk_at "rd_hidR"
          intro q1 H1 S1 e1 _
          exact hR _ _ ⟨q1, rfl, S1, by rw [Nat.min_eq_right z, Nat.max_eq_left z]; exact e1⟩
    · have hn : ∃ c c', gL ls (f (kat ss p)) = some c ∧ gL ls (f (kat ss p2)) = some c' ∧ c ≠ c' := Classical.byContradiction fun z => hc fun c c' g g' => Classical.byContradiction fun n => z ⟨c, c', g, g', n⟩
      have nk := r.ok
      have tx := r.tx
      have ka := kat_lt tx.ok hp
      have kb := kat_lt tx.ok hp2
      walk_at "rd_hidR"
      refine rd_oF ?_
      walk_at "rd_hidR"
      refine rd_fld_at r.ins T.cKeyReader T.na_KeyReader_source_text rdF_text ?_
      refine ⟨_, rfl, ?_⟩
      walk_at "rd_hidR"
      rw [Int.toNat_natCast]
      walk_at "rd_hidR"
      refine rd_oF ?_
      walk_at "rd_hidR"
      refine rd_fld_at r.ins T.cKeyReader T.na_KeyReader_source_text rdF_text ?_
      refine ⟨_, rfl, ?_⟩
      walk_at "rd_hidR"
      rw [Int.toNat_natCast]
      obtain ⟨a1, a2, a3⟩ := r.spec ka
      obtain ⟨b1, b2, b3⟩ := r.spec kb
      generalize hka : kat ss p = a at *
      generalize hkb : kat ss p2 = b at *
      walk_at "rd_hidR"
      refine rd_ifJ (fun v H' => ∃ q, v = .ref q ∧ Same H H' ∧ H' q = some (.tup [.int (min (f a) (f b) : Nat), .int (max (f a) (f b) : Nat)])) ?_ fun R hR => ?_
      · rintro v H1 ⟨q1, rfl, S1, e1⟩
        refine rd_gtup (SqT.of e1) rfl ?_
        have r1 := r.same S1
        obtain ⟨c, c', g, g', n⟩ := hn
        obtain ⟨m, hm, hm1, hm2⟩ : ∃ m, min (f a) (f b) = m ∧ m < (tyL ss).length ∧ (m = f a ∨ m = f b) := ⟨_, rfl, by omega, by omega⟩
        obtain ⟨M, hM, hM1, hM2⟩ : ∃ M, max (f a) (f b) = M ∧ M < (tyL ss).length ∧ ((M = f a ∧ m = f b) ∨ (M = f b ∧ m = f a)) := ⟨_, rfl, by omega, by omega⟩
        obtain ⟨cm, cM, em, eM, ne⟩ : ∃ cm cM, gL ls m = some cm ∧ gL ls M = some cM ∧ cm ≠ cM := by
          rcases hM2 with ⟨e1, e2⟩ | ⟨e1, e2⟩
          · exact ⟨c', c, by rw [e2]; exact g', by rw [e1]; exact g, fun z => n z.symm⟩
          · exact ⟨c, c', by rw [e2]; exact g, by rw [e1]; exact g', n⟩
        rw [hm, hM]
        walk_at "rdS_hidR"
        refine rd_ifAndJ (fun _ => False) (fun _ z => z.elim) fun hq => ?_
        walk_at "rd_hidR"
        refine rd_din ?_
        walk_at "rd_hidR"
        refine rd_fld_at r1.ins T.cKeyReader T.na_KeyReader_letters rdF_letters ?_
        refine ⟨d, _, rfl, kvM_dget r1.dl m, ?_⟩
        walk_at "rd_hidR"
        rw [em]
        refine rd_cT rfl ?_
        walk_at "rd_hidR"
        refine rd_din ?_
        walk_at "rd_hidR"
        refine rd_fld_at r1.ins T.cKeyReader T.na_KeyReader_letters rdF_letters ?_
        refine ⟨d, _, rfl, kvM_dget r1.dl M, ?_⟩
        walk_at "rd_hidR"
        rw [eM]
        refine rd_cT rfl ?_
        walk_at "rd_hidR"
        refine rd_dget ?_
        walk_at "rd_hidR"
        refine rd_fld_at r1.ins T.cKeyReader T.na_KeyReader_letters rdF_letters ?_
        walk_at "rd_hidR"
        refine ⟨d, .str ⟨#[cm]⟩, rfl, ?_, ?_⟩
        · have := kvM_dget r1.dl m
          rw [em] at this
          exact this
        walk_at "rd_hidR"
        refine rd_dget ?_
        walk_at "rd_hidR"
        refine rd_fld_at r1.ins T.cKeyReader T.na_KeyReader_letters rdF_letters ?_
        walk_at "rd_hidR"
        refine ⟨d, .str ⟨#[cM]⟩, rfl, ?_, ?_⟩
        · have := kvM_dget r1.dl M
          rw [eM] at this
          exact this
        walk_at "rd_hidR"
        rw [decide_eq_false (show ¬ (⟨#[cm]⟩ : Str) = ⟨#[cM]⟩ from fun z => ne (List.cons.inj (show [cm] = [cM] from congrArg tl z)).1)]
        walk_at "rd_hidR"
        exact qE c c' g g' n _ S1
      · rcases Nat.lt_or_ge (f a) (f b) with z | z
        · refine rd_dT (by omega) ?_
          walk_at "rd_hidR"
          intro q1 H1 S1 e1 _
          exact hR _ _ ⟨q1, rfl, S1, by rw [Nat.min_eq_left (by omega), Nat.max_eq_right (by omega)]; exact e1⟩
        · refine rd_dF (by omega) ?_
          walk_at "rd_hidR"
          intro q1 H1 S1 e1 _
          exact hR _ _ ⟨q1, rfl, S1, by rw [Nat.min_eq_right z, Nat.max_eq_left z]; exact e1⟩
end
section
variable {P : Program} {w : World} {K : PySem.W.Frag} {mg : Str → Option Value} {base : Heap} {CText CPart CEditor CKeyReader CTextError CInvalidStep CInvalidOperation CDecodeError CNotationError CTooLong CInvalidPlace CInvalidLetter CContradiction CInvalidCount c_x_law_learned p_x_law_learned c_law p_law : Addr}
theorem okR_KeyReader_see_word (T : Txt K mg CText CPart CEditor CKeyReader CTextError CInvalidStep CInvalidOperation CDecodeError CNotationError CTooLong CInvalidPlace CInvalidLetter CContradiction CInvalidCount c_x_law_learned p_x_law_learned c_law p_law) : MOk P w K mg base (L2.CX P w) 5 CKeyReader "see_word" (sp_KeyReader_see_wordR K CText CPart CKeyReader CContradiction) := by
  refine T.d_KeyReader_see_word.okX sc_KeyReader_see_word (fun vs H Q E h => ?len) (fun f cdv A outer s H vs Q E hr h => ?_)
  case len => obtain ⟨x, h', d, ss, f, ls, ob, p, w, rfl, _⟩ := h; rfl
  · obtain ⟨x, hl, d, ss, f, ls, ob, p, wd, rfl, ⟨i, r⟩, hp, w1, w20, hw, ho, q, qE⟩ := h
    refine ⟨_, (pss_cons (ps_if (pt_not (pt_val (pe_g (ok_is_integer (K := K) T) (hr.mono (by decide)) pass0 (pa_cons (pv 1) (pa_cons pe_int (pa_cons (pe_p (pe_fldK (K := K) rfl (pv 0) (by rfl)) T.cText (ok_Text_size (K := K) T) (hr.mono (by decide)) pass0) pa_nil)))))) (pss_one (ps_rz T.x_InvalidPlace (takes_of rfl rfl rfl rfl)))
    pss_nil)
    (pss_cons (ps_if (pt_not (pt_val (pe_g (ok_is_word (K := K) T) (hr.mono (by decide)) pass0 (pa_cons (pv 2) pa_nil)))) (pss_one (ps_rz T.x_InvalidLetter (takes_of rfl rfl rfl rfl)))
    pss_nil)
    (pss_cons (ps_if (pt_cmpR op_gt (pe_op (addK (K := K) rfl) (pv 1) (pe_callB (lenK (K := K) rfl) rfl T.n_len (by decide +kernel) (pa_cons (pv 2) pa_nil))) (pe_p (pe_fldK (K := K) rfl (pv 0) (by rfl)) T.cText (ok_Text_size (K := K) T) (hr.mono (by decide)) pass0) (nomark _)) (pss_one (ps_rz T.x_InvalidPlace (takes_of rfl rfl rfl rfl)))
    pss_nil)
    (pss_cons (ps_set (i := 3) sc_KeyReader_see_word.nd rfl (Or.inl rfl) (pe_callTy call_dictD rfl T.n_dict (by decide +kernel) (pa_cons (pe_fldK (K := K) rfl (pv 0) (by rfl)) pa_nil)))
    (pss_cons (ps_try_re rfl rfl rfl ⟨rfl, by decide, .inl T.x_Contradiction.g⟩ (takes_of rfl rfl rfl rfl) (L2H.passesAt_of rfl) (fun W pn xe tk po => (pss_one (ps_for po rfl (pi_enumS rfl T.n_enumerate (pa_cons (pv 2) pa_nil)) (pg_tupK (K := K) (n := 2) rfl rfl (pgs_cons (pg_name (i := 4) sc_KeyReader_see_word.nd rfl (Or.inl rfl)) (pgs_cons (pg_name (i := 5) sc_KeyReader_see_word.nd rfl (Or.inl rfl)) pgs_nil))) (pss_one (ps_expr (pe_mW (W := W) (pv 0) T.cKeyReader (okR_KeyReader_accept_letter (K := K) T) (hr.mono (by decide)) tk (pa_cons (pe_oF (K := K) rfl (pv 0) (ok_Text_call (K := K) T) (hr.mono (by decide)) pass0 (pa_cons (pe_op (addK (K := K) rfl) (pv 1) (pv 4)) pa_nil)) (pa_cons (pv 5) pa_nil))))))))
    (fun ea pn => (ps_fldK (K := K) rfl (pv 0) (pv 3) rfl)))
    (pss_cons (ps_fld (pv 0) (pe_tup (pa_starK (K := K) rfl (pe_fldK (K := K) rfl (pv 0) (by rfl)) (pa_cons (pe_tup (pa_cons pe_str (pa_cons (pv 1) (pa_cons (pv 2) pa_nil)))) pa_nil))) rfl)
    (pss_one (ps_ret (pe_m0 (pv 0) T.cKeyReader (ok_KeyReader_known_count (K := K) T) (hr.mono (by decide)) pass0))))))))), ?_⟩
    refine rd_startE (show start N_KeyReader_see_word [.ref x, .int (p : Nat), .str (mkS wd)] = [some (.ref x), some (.int (p : Nat)), some (.str (mkS wd)), none, none, none] from rfl) ?_
    have nk := r.ok
    have tx := r.tx
    have sle := sz_le tx.ok
    walk_at "rd_hidR"
    refine rd_fld_at r.ins T.cKeyReader T.na_KeyReader_source_text rdF_text ?_
    walk_at "rd_hidR"
    refine rd_isIntT ⟨by omega, by omega⟩ ?_
    walk_at "rd_hidR"
    have lw : (mkS wd).length = wd.length := mkS_len wd
    have zw : (mkS wd).length ≤ sizeLine := by rw [lw, sizeLine_eq]; omega
    refine ⟨_, rfl, trivial, (fun x e => by cases e; exact zw), fun H1 S1 => ?_⟩
    rw [show isWd (.str (mkS wd)) = true from decide_eq_true (show 1 ≤ (tl (mkS wd)).length ∧ (tl (mkS wd)).length ≤ 20 ∧ ∀ c ∈ tl (mkS wd), 97 ≤ c ∧ c ≤ 122 from ⟨w1, w20, hw⟩)]
    have r1 := r.same S1
    have tx1 := r1.tx
    walk_at "rd_hidR"
    refine rd_fld_at r1.ins T.cKeyReader T.na_KeyReader_source_text rdF_text ?_
    walk_at "rd_hidR"
    refine rd_fld_at r1.ins T.cKeyReader T.na_KeyReader_letters rdF_letters ?_
    walk_at "rd_hidR"
    refine ⟨d, _, rfl, .inl r1.dl, fun kd nkd => ?_⟩
    have S2 : Same H1 (upd H1 kd (.dK (kvM ls))) := Same.new (Same.refl _) nkd
    have ekd : upd H1 kd (.dK (kvM ls)) kd = some (.dK (kvM ls)) := upd_same
    have nkH : H kd = none := Same.back S1 nkd
    have kd1 : kd ≠ x := fun z => by have := r1.ins; rw [← z, nkd] at this; cases this
    have kd2 : kd ≠ hl := fun z => by have := r1.hl; rw [← z, nkd] at this; cases this
    have kd3 : kd ≠ d := fun z => by have := r1.dl; rw [← z, nkd] at this; cases this
    revert S2 ekd
    generalize upd H1 kd (.dK (kvM ls)) = H2
    intro S2 ekd
    have r2 := r1.same S2
    walk_at "rd_hidR"
    refine rd_re ?_
    walk_at "rd_hidR"
    refine rd_iEnumS ?_
    walk_at "rd_hidR"
    refine ⟨mkS wd, rfl, for_pair (n := wd.length) (it := fun i => [.int (i : Nat), .str ⟨#[wd[i]?.getD 0]⟩]) (fun j σ H' => ∃ v4 v5, σ = [some (.ref x), some (.int (p : Nat)), some (.str (mkS wd)), some (.ref kd), v4, v5] ∧ Bt [x, hl, d] H2 H' ∧ H' kd = some (.dK (kvM ls)) ∧ okW f ss p (wd.take j) ls ∧ Reader K CText CPart CKeyReader H' x hl d ss f (lsW f ss p (wd.take j) ls) ob) ⟨_, _, rfl, Bt.refl, ekd, trivial, ⟨i, r2⟩⟩ (fun j σ H' _ _ => pairy_es) ?_ ?_⟩
    · rintro j Tu σ H' hj ⟨v4, v5, rfl, B, ek, okw, R⟩ hT
      refine rd_gtup (SqT.of upd_same) rfl ?_
      have S3 : Same H' (upd H' Tu (.tup [.int (j : Nat), .str ⟨#[wd[j]?.getD 0]⟩])) := Same.new (Same.refl _) hT
      revert S3
      generalize upd H' Tu _ = H3
      intro S3
      obtain ⟨i3, r3⟩ := R.same S3
      have hc : wd[j]? = some (wd[j]?.getD 0) := by rw [List.getElem?_eq_getElem hj]; rfl
      revert hc
      generalize wd[j]?.getD 0 = c
      intro hc
      have hcl := hw c (List.mem_of_getElem? hc)
      have tx3 := r3.tx
      walk_at "rd_hidR"
      refine rd_mW ?_
      walk_at "rd_hidR"
      refine rd_oF ?_
      walk_at "rd_hidR"
      refine rd_fld_at r3.ins T.cKeyReader T.na_KeyReader_source_text rdF_text ?_
      refine ⟨_, rfl, ?_⟩
      walk_at "rd_hidR"
      rw [show ((p : Int) + (j : Nat)).toNat = p + j by omega]
      have ek3 := S3 _ _ ek
      refine ⟨x, hl, d, ss, f, _, ob, kat ss (p + j), c, rfl, ⟨_, r3⟩, kat_lt tx.ok (by omega), hcl.1, hcl.2, fun hc1 H4 b4 R4 => ?_, fun c' g n => ?_⟩
      · walk_at "rd_hidR"
        have lt : (wd.take j).length = j := by rw [List.length_take, Nat.min_eq_left (Nat.le_of_lt hj)]
        refine ⟨_, _, rfl, (B.trans (.same S3)).trans (Bt.but b4 (by simp)), b4 _ _ kd3 ek3, ?_, ?_⟩
        · rw [take_snoc hc]
          exact okW_snocI okw (by rw [lt]; exact hc1)
        · rw [take_snoc hc, lsW_snoc, lt]
          exact R4
      · refine ⟨true, T.zs_Contradiction, fun _ => ?_, nofun⟩
        walk_at "rd_hidR"
        refine rd_edset r3.ins T.cKeyReader T.na_KeyReader_letters rdF_len fun H6 b6 e6 => ?_
        rw [rdF_putL] at e6
        walk_at "rd_hidR"
        exact qE (okW_not j hc g n) H6 kd ((((Bt.same (S1.trans S2)).trans B).trans (.same S3)).trans (Bt.but b6 (by simp))) nkH kd1 kd2 ⟨_, r3.back T.ne_Text_KeyReader T.ne_Part_KeyReader b6 e6 ek3 r.lok kd1⟩
    · rintro σ H' ⟨v4, v5, rfl, B, ek, okw, R⟩
      rw [List.take_length] at R okw
      obtain ⟨i3, r3⟩ := R
      walk_at "rd_hidR"
      refine rd_fld_at r3.ins T.cKeyReader T.na_KeyReader_seen rdF_seen ?_
      refine ⟨i3.s, i3.sm, rfl, .inl r3.sn, ?_⟩
      walk_at "rd_hidR"
      intro q4 H4 S4 e4 _
      have r4 := r3.same S4
      have lo := r3.obs.1
      walk_at "rd_hidR"
      refine rd_new (by rw [sizeLine_eq, List.length_append, List.length_singleton]; omega) fun q5 H5 S5 e5 _ => ?_
      have r5 := r4.same S5
      walk_at "rd_hidR"
      refine rd_edset r5.ins T.cKeyReader T.na_KeyReader_seen rdF_len fun H6 b6 e6 => ?_
      rw [rdF_put] at e6
      have r6 := r5.seen T.ne_Text_KeyReader T.ne_Part_KeyReader b6 e6 (SqT.of e5) (r5.obs.snoc (o := .word p wd) (SqT.of (S5 _ _ e4)))
      have B6 : Bt [x, hl, d] H H6 := (((Bt.same (S1.trans S2)).trans B).trans (.same (S4.trans S5))).trans (Bt.but b6 (by simp))
      walk_at "rd_hidR"
      exact ⟨x, hl, d, ss, f, _, _, rfl, ⟨_, r6⟩, fun H7 S7 => q okw _ (B6.trans (.same S7)) ⟨_, r6.same S7⟩⟩
end
section
variable {P : Program} {w : World} {K : PySem.W.Frag} {mg : Str → Option Value} {base : Heap} {CText CPart CEditor CKeyReader CTextError CInvalidStep CInvalidOperation CDecodeError CNotationError CTooLong CInvalidPlace CInvalidLetter CContradiction CInvalidCount c_x_law_learned p_x_law_learned c_law p_law : Addr}
theorem ok_x_law_keys (T : Txt K mg CText CPart CEditor CKeyReader CTextError CInvalidStep CInvalidOperation CDecodeError CNotationError CTooLong CInvalidPlace CInvalidLetter CContradiction CInvalidCount c_x_law_learned p_x_law_learned c_law p_law) : GOk P w K mg base CX0 1 "_law_keys" (sp_x_law_keysL K) := by
  refine T.d_x_law_keys.ok sc_x_law_keys (fun vs H Q E h => ?len) (fun f cdv A outer s H vs Q E hr h => ?_)
  case len => obtain ⟨a, ms, ss, rfl, _⟩ := h; rfl
  · obtain ⟨a, ms, ss, rfl, hq, hst, ok, few, hz, k⟩ := h
    refine ⟨_, (pss_cons (ps_asg (pe_tup (pa_cons pe_str (pa_cons (pe_lst pa_nil) pa_nil))) (pg_tupK (K := K) (n := 2) rfl rfl (pgs_cons (pg_name (i := 1) sc_x_law_keys.nd rfl (Or.inr rfl)) (pgs_cons (pg_name (i := 2) sc_x_law_keys.nd rfl (Or.inl rfl)) pgs_nil))))
    (pss_cons (ps_for PassesOwn.never rfl (pi_listK (K := K) rfl (pv 0)) (pg_name (i := 3) sc_x_law_keys.nd rfl (Or.inl rfl)) (pss_one (ps_if (pt_cmpR (eqK (K := K) rfl hr.units) (pe_ix (ixK (K := K) rfl) (pv 3) pe_int (fun _ _ => rfl)) pe_str (nomark _)) (pss_cons (ps_set (i := 2) sc_x_law_keys.nd rfl (Or.inl rfl) (pe_op (addK (K := K) rfl) (pv 2) (pe_lc (own := [("_law_k", 4)]) rfl sc_x_law_keys.nd (pi_range1 rfl T.n_range (pa_cons (pe_callB (lenK (K := K) rfl) rfl T.n_len (by decide +kernel) (pa_cons (pe_ix (ixK (K := K) rfl) (pv 3) pe_int (fun _ _ => rfl)) pa_nil)) pa_nil)) (blkOk_by (own := [("_law_k", 4)]) (N := N_x_law_keys) (sc := (defScope s_x_law_keys)) (by first | decide +kernel | rfl)) (fun _ _ _ _ _ => (pg_name (i := 4) sc_x_law_keys.nd rfl (Or.inl rfl))) (fun _ _ _ _ _ => pts_nil) (fun _ _ _ _ _ => (pe_op (addK (K := K) rfl) (pe_callB (lenK (K := K) rfl) rfl T.n_len (by decide +kernel) (pa_cons (pv 1) pa_nil)) (pv 4))))))
    (pss_one (ps_set (i := 1) sc_x_law_keys.nd rfl (Or.inr rfl) (pe_op (addK (K := K) rfl) (pv 1) (pe_ix (ixK (K := K) rfl) (pv 3) pe_int (fun _ _ => rfl))))))
    (pss_one (ps_set (i := 2) sc_x_law_keys.nd rfl (Or.inl rfl) (pe_op (addK (K := K) rfl) (pv 2) (pe_op oMul (pe_slice (slK (K := K) rfl) (pv 2) (po_some (pe_ix (ixK (K := K) rfl) (pv 3) pe_int (fun _ _ => rfl))) (po_some (pe_op (addK (K := K) rfl) (pe_ix (ixK (K := K) rfl) (pv 3) pe_int (fun _ _ => rfl)) pe_int))) (pe_ix (ixK (K := K) rfl) (pv 3) pe_int (fun _ _ => rfl)))))))))
    (pss_one (ps_ret (pe_tup (pa_cons (pv 1) (pa_cons (pv 2) pa_nil))))))), ?_⟩
    refine rd_startE (show start N_x_law_keys [.ref a] = [some (.ref a), none, none, none, none] from rfl) ?_
    walk_at "rd_Fa"
    intro l H1 S1 e1 _
    walk_at "rd_Fa"
    intro p H2 S2 e2 _
    refine rd_gtup (SqT.of e2) rfl ?_
    walk_at "rd_Fa"
    have line : 16000 < sizeLine := by rw [sizeLine_eq]; decide
    refine ⟨⟨_, (S1.trans S2).seq hq⟩, for_list (xs := ms) (fun i σ H' => ∃ l v3 v4, σ = [some (.ref a), some (.str (mkS (tyL (ss.take i)))), some (.ref l), v3, v4] ∧ Same H H' ∧ H' l = some (.lst (natV (ks (ss.take i))))) ⟨l, _, _, by rw [emp_mk]; rfl, S1.trans S2, S2 _ _ e1⟩ (fun i σ H' _ ⟨_, _, _, _, S, _⟩ => S.seq hq) ?_ ?_⟩
    · rintro i v σ H' hv ⟨l, v3, v4, rfl, S, hl'⟩
      obtain ⟨s', hs, a', rfl, hq1⟩ := hst.at hv
      have hq' := Same.tup S hq1
      have ok' := (ok_at ok hs).1
      have hks : (ks (ss.take i)).length = sz (ss.take i) := ks_len (ok_take ok i)
      have hzs := sz_take hs
      have hz1 := sz_take_le (ss := ss) (i + 1)
      have hty : (tyL (ss.take i)).length ≤ 620 := by
        have := tyL_small (ok_take ok i)
        rw [List.length_take] at this; omega
      have tys : (mkS (tyL (ss.take i))).length ≤ sizeLine := by rw [mkS_len]; omega
      walk_at "rd_Fa"
      cases s' with
      | wr w =>
        have w20 := ok'.2.1
        simp only [len1] at hzs
        have wz : w.length ≤ sizeLine := str_small w20
        refine rd_ixT ?_ hq' rfl
        walk_at "rd_Fa"
        refine rd_ixT ?_ hq' rfl
        walk_at "rd_Fa"
        refine rd_len_str wz ?_
        walk_at "rd_Fa"
        refine ⟨_, rfl, by omega, by omega, fun D hD => lc_fun (n := w.length) (it := fun j => .int (0 + (j : Nat))) (by rw [Int.toNat_natCast]; exact plain_rng) hD (by rw [sizeLine_eq]; omega) (fun v => rfl) (fun j => .int ((tyL (ss.take i)).length + j : Nat)) (fun j H5 Q5 hj S5 q => ?_) fun H6 S6 eD => ?_⟩
        · walk_at "rd_Fa"
          rw [show (((tyL (ss.take i)).length : Nat) : Int) + (0 + (j : Nat)) = (((tyL (ss.take i)).length + j : Nat) : Int) by omega]
          exact q _ (Same.refl _)
        · refine rd_add_lst (S6 _ _ hl') eD (by rw [natV_len, hks, List.length_map, List.length_range]; omega) fun q2 hn2 => ?_
          walk_at "rd_Fa"
          have S7 := Same.new (o := .lst (natV (ks (ss.take i)) ++ (List.range w.length).map fun j => V.int ((tyL (ss.take i)).length + j : Nat))) S6 hn2
          refine rd_ixT ?_ (Same.tup S7 hq') rfl
          refine rd_add_str (by rw [mkS_len]; omega) ?_
          walk_at "rd_Fa"
          refine ⟨q2, some (.ref a'), v4, ?_, S.trans S7, ?_⟩
          · rw [tyL_take hs, ← mkS_app]
            simp only [ty1]
            rw [mkS_tl]
            rfl
          · unfold natV
            rw [ks_take_wr hs, List.map_append, upd_same]
            congr 3
            rw [List.range'_eq_map_range, List.map_map]
            rfl
      | pa f l2 t =>
        obtain ⟨o1, o2, o3, o4⟩ := ok'
        simp only [len1] at hzs
        refine rd_ixT ?_ hq' rfl
        walk_at "rd_Fa"
        refine rd_ixT ?_ hq' rfl
        walk_at "rd_Fa"
        refine rd_ixT ?_ hq' rfl
        walk_at "rd_Fa"
        refine rd_slL (SqL.of hl') fun q hn => ?_
        walk_at "rd_Fa"
        rw [show ((l2 : Nat) : Int) + 1 = ((l2 + 1 : Nat) : Int) by omega, cutV_nat _ _ _ (by rw [natV_len, hks]; omega)]
        have S2 := Same.new (o := .lst (((natV (ks (ss.take i))).drop f).take (l2 + 1 - f))) (Same.refl H') hn
        refine rd_ixT ?_ (Same.tup S2 hq') rfl
        have hlen : (((natV (ks (ss.take i))).drop f).take (l2 + 1 - f)).length = l2 - f + 1 := by rw [List.length_take, List.length_drop, natV_len, hks]; omega
        have h15 : (l2 - f + 1) * t ≤ 16000 := by omega
        refine rd_mul_lst upd_same (by omega) (by rw [hlen]; omega) fun q2 hn2 => ?_
        have S3 := Same.new (o := .lst (List.replicate t (((natV (ks (ss.take i))).drop f).take (l2 + 1 - f))).flatten) S2 hn2
        refine rd_add_lst (S3 _ _ hl') upd_same (by rw [natV_len, hks, length_flat_rep, hlen, Nat.mul_comm]; omega) fun q3 hn3 => ?_
        walk_at "rd_Fa"
        refine ⟨q3, some (.ref a'), v4, ?_, S.trans (Same.new S3 hn3), ?_⟩
        · rw [tyL_take hs]
          simp only [ty1, List.append_nil]
          rfl
        · rw [upd_same]
          unfold natV
          rw [ks_take_pa hs, List.map_append, List.map_flatten, List.map_replicate, List.map_take, List.map_drop, show l2 + 1 - f = l2 - f + 1 by omega]
    · rintro σ H' ⟨l, v3, v4, rfl, S, hl'⟩
      rw [hst.1, List.take_length] at hl' ⊢
      walk_at "rd_Fa"
      intro p6 H6 S6 e6 _
      exact k p6 l H6 (S.trans S6) e6 (S6 _ _ hl')
end
local macro_rules | `(tactic| walk_at "rd1_cls45") => `(tactic| walk_at "rd1_Fa")
local macro_rules | `(tactic| walk_at "rd_cls45") => `(tactic| repeat walk_at "rd1_cls45")
local macro_rules | `(tactic| walk_at "rdS_cls45") => `(tactic| repeat ((fail_if_success with_reducible show tIfS _ _ _ _ _ _); walk_at "rd1_cls45"))
local macro_rules | `(tactic| walk_at "rd1_cls45") => `(tactic| first
  | with_reducible refine rd_par ?_ | with_reducible refine rd_two ?_ | with_reducible refine rd_lc ?_ | with_reducible refine rd_for ?_ | with_reducible refine rd_iList ?_ | with_reducible refine rd_if ?_)
section
variable {P : Program} {w : World} {K : PySem.W.Frag} {mg : Str → Option Value} {base : Heap} {CText CPart CEditor CKeyReader CTextError CInvalidStep CInvalidOperation CDecodeError CNotationError CTooLong CInvalidPlace CInvalidLetter CContradiction CInvalidCount c_x_law_learned p_x_law_learned c_law p_law : Addr}
theorem ok_x_law_joined (T : Txt K mg CText CPart CEditor CKeyReader CTextError CInvalidStep CInvalidOperation CDecodeError CNotationError CTooLong CInvalidPlace CInvalidLetter CContradiction CInvalidCount c_x_law_learned p_x_law_learned c_law p_law) : GOk P w K mg base CX0 1 "_law_joined" (sp_x_law_joined ) := by
  refine T.d_x_law_joined.ok sc_x_law_joined (fun vs H Q E h => ?len) (fun f cdv A outer s H vs Q E hr h => ?_)
  case len => obtain ⟨Pp, l, f0, n, a, b, rfl, _⟩ := h; rfl
  · obtain ⟨Pp, l, f0, n, a, b, rfl, cl, hp, L, ha, hb, hn, k⟩ := h
    refine ⟨_, (pss_cons (ps_par (i := 3) (j := 4) rfl sc_x_law_joined.nd rfl rfl (by decide) rfl rfl (pa_cons (pe_lst pa_nil) (pa_cons (pe_lst pa_nil) pa_nil)) rfl)
    (pss_cons (ps_for PassesOwn.never rfl (pi_listK (K := K) rfl (pv 0)) (pg_name (i := 5) sc_x_law_joined.nd rfl (Or.inl rfl)) (pss_one (ps_if (PW.pt (pw_or (pt_cmpR (inK (K := K) rfl) (pv 1) (pv 5) rfl) (pw_or1 (pt_cmpR (inK (K := K) rfl) (pv 2) (pv 5) rfl)))) (pss_one (ps_set (i := 3) sc_x_law_joined.nd rfl (Or.inl rfl) (pe_op (addK (K := K) rfl) (pv 3) (pv 5))))
    (pss_one (ps_expr (pe_bmK (K := K) rfl PySem.F.plainAttrs_list PySem.F.slot_list_append PySem.F.type_list_append mt_append (pv 4) (pa_cons (pv 5) pa_nil)))))))
    (pss_one (ps_ret (pe_callB (sortLLK (K := K) rfl hr.units) rfl T.n_sorted (by decide +kernel) (pa_cons (pe_op (addK (K := K) rfl) (pv 4) (pe_lst (pa_cons (pe_callB (sortIK (K := K) rfl) rfl T.n_sorted (by decide +kernel) (pa_cons (pv 3) pa_nil)) pa_nil))) pa_nil)))))), ?_⟩
    refine rd_startE (show start N_x_law_joined [.ref l, .int (a : Nat), .int (b : Nat)] = [some (.ref l), some (.int (a : Nat)), some (.int (b : Nat)), none, none, none] from rfl) ?_
    have cl0 : ClsP (fun x => Pp x ∧ H x ≠ none) H l (clsF f0 n) := cl.imp fun x o e p => ⟨p, by rw [e]; simp⟩
    obtain ⟨xs, ex⟩ : ∃ xs, H l = some (.lst xs) := let ⟨as, e, _⟩ := cl; ⟨_, e⟩
    have lx := cl.len ex
    have ln := clsF_len f0 n
    walk_at "rd_cls45"
    intro m0 H1 S1 e1 n1
    walk_at "rd_cls45"
    intro r H2 S2 e2 n2
    have nr : H r = none := Same.back S1 n2
    walk_at "rd_cls45"
    refine ⟨⟨_, SqL.of ((S1.trans S2) _ _ ex)⟩, for_list (xs := xs) (fun i σ H' => ∃ m v5 ms, σ = [some (.ref l), some (.int (a : Nat)), some (.int (b : Nat)), some (.ref m), some (.ref r), v5] ∧ Same H H' ∧ m ≠ r ∧ H' m = some (.lst (natV (((clsF f0 n).take i).filter (hasB a b)).flatten)) ∧ H' r = some (.lst ms) ∧ ClsP (fun x => Pp x ∧ H x ≠ none) H' r (((clsF f0 n).take i).filter fun p => !hasB a b p))
      ⟨m0, _, [], rfl, S1.trans S2, ne_of_none e1 n2, S2 _ _ e1, e2, ClsP.nil e2⟩ (fun i σ H' _ ⟨_, _, _, _, S, _⟩ => SqL.of (S _ _ ex)) ?_ ?_⟩
    · rintro i v σ H3 hv ⟨m, v5, ms, rfl, S3, nm, em, er, cr⟩
      obtain ⟨t, c, rfl, hc, ⟨pt, nt⟩, et⟩ := cl0.get ex hv
      have et3 := S3 _ _ et
      have lm := flat_filt_len L a b i
      have lm2 := flat_filt_len L a b (i + 1)
      have mt := mrg_take (a := a) (b := b) hc
      have rt := rst_take (a := a) (b := b) hc
      have lr := cr.len er
      have lr2 := List.length_filter_le (fun p => !hasB a b p) ((clsF f0 n).take i)
      rw [List.length_take] at lr2
      walk_at "rdS_cls45"
      refine rd_ifOr (fun Hc => Hc = H3 ∧ hasB a b c = true) ?_ fun join => ?_
      · rintro Hc ⟨rfl, hh⟩
        rw [if_pos hh] at mt rt
        rw [List.append_nil] at rt
        rw [mt, List.length_append] at lm2
        walk_at "rd_cls45"
        refine rd_addSame em et3 (by rw [natV_len, natV_len, sizeLine_eq]; omega) fun p H4 S4 n4 e4 => ?_
        walk_at "rd_cls45"
        exact ⟨p, _, ms, rfl, S3.trans S4, fun z => (by subst z; rw [er] at n4; cases n4), (by rw [e4, mt]; unfold natV; rw [List.map_append]), S4 _ _ er, by rw [rt]; exact cr.mono S4⟩
      · walk_at "rdS_cls45"
        refine rd_inNN et3 ?_
        walk_at "rdS_cls45"
        refine rd_ite (fun h1 => join _ ⟨rfl, decide_eq_true (.inl h1)⟩) (fun h1 => ?_)
        walk_at "rdS_cls45"
        refine rd_inNN et3 ?_
        walk_at "rdS_cls45"
        refine rd_ite (fun h2 => by have := join _ ⟨rfl, decide_eq_true (.inr h2)⟩; rwa [if_pos rfl] at this) (fun h2 => ?_)
        clear join
        have hh : ¬ hasB a b c = true := fun z => (of_decide_eq_true z).elim h1 h2
        rw [if_neg hh] at mt rt
        rw [List.append_nil] at mt
        walk_at "rd_cls45"
        refine rd_tyL (SqL.of er) _ ?_
        walk_at "rd_cls45"
        refine rd_append er (by rw [lr, sizeLine_eq]; omega) ?_
        exact ⟨m, _, _, rfl, Same.mut S3 nr, nm, by rw [upd_ne nm, em, mt], upd_same, by rw [rt]; exact cr.app er et3 ⟨pt, nt⟩ fun x hx z => hx.2 (z ▸ nr)⟩
    · rintro σ H3 ⟨m, v5, ms, rfl, S3, nm, em, er, cr⟩
      rw [lx] at em cr
      walk_at "rd_cls45"
      refine rd_sortNatP em (joined_mrg L ha hb).symm (memF_pair _ _ _) fun p4 H4 S4 n4 e4 => ?_
      walk_at "rd_cls45"
      intro p5 H5 S5 e5 _
      have cr := cr.imp (P' := Pp) fun x o _ p => p.1
      have lr := cr.len er
      have lr2 := List.length_filter_le (fun p => !hasB a b p) ((clsF f0 n).take (clsF f0 n).length)
      rw [List.length_take] at lr2
      obtain ⟨as, ea, _⟩ := id cr
      rw [er] at ea
      cases ea
      have er5 := S5 _ _ (S4 _ _ er)
      walk_at "rd_cls45"
      refine rd_addSame er5 e5 (by rw [lr, sizeLine_eq]; show _ + 1 ≤ _; omega) fun p6 H6 S6 n6 e6 => ?_
      have S36 := (S4.trans S5).trans S6
      walk_at "rd_cls45"
      refine rd_sortLL (cr.snoc er S36 e6 (S6 _ _ (S5 _ _ e4)) (hp _ (Same.back S3 n4))) (L.tie ha hb) (joined_parts L ha hb) fun p7 H7 S7 n7 c7 => ?_
      exact k p7 H7 (S3.trans (S36.trans S7)) (Same.back (S3.trans S36) n7) c7
end
section
variable {P : Program} {w : World} {K : PySem.W.Frag} {mg : Str → Option Value} {base : Heap} {CText CPart CEditor CKeyReader CTextError CInvalidStep CInvalidOperation CDecodeError CNotationError CTooLong CInvalidPlace CInvalidLetter CContradiction CInvalidCount c_x_law_learned p_x_law_learned c_law p_law : Addr}
theorem ok_x_law_texts (T : Txt K mg CText CPart CEditor CKeyReader CTextError CInvalidStep CInvalidOperation CDecodeError CNotationError CTooLong CInvalidPlace CInvalidLetter CContradiction CInvalidCount c_x_law_learned p_x_law_learned c_law p_law) : GOk P w K mg base CX0 1 "_law_texts" (sp_x_law_texts ) := by
  refine T.d_x_law_texts.ok sc_x_law_texts (fun vs H Q E h => ?len) (fun f cdv A outer s H vs Q E hr h => ?_)
  case len => obtain ⟨l, d, f0, ls, kn, n, rfl, _⟩ := h; rfl
  · obtain ⟨l, d, f0, ls, kn, n, rfl, cl, ed, ko, L, hn, k⟩ := h
    refine ⟨_, (pss_cons (ps_set (i := 2) sc_x_law_texts.nd rfl (Or.inl rfl) pe_int)
    (pss_cons (ps_for PassesOwn.never rfl (pi_listK (K := K) rfl (pv 0)) (pg_name (i := 3) sc_x_law_texts.nd rfl (Or.inl rfl)) (pss_one (ps_set (i := 2) sc_x_law_texts.nd rfl (Or.inl rfl) (pe_op oMul (pv 2) (pe_ifExp (pt_cmp (pc_din (hu_of hr) (pe_ix (ixK (K := K) rfl) (pv 3) pe_int (fun _ _ => rfl)) (pv 1))) pe_int pe_int)))))
    (pss_one (ps_ret (pv 2))))), ?_⟩
    refine rd_startE (show start N_x_law_texts [.ref l, .ref d] = [some (.ref l), some (.ref d), none, none] from rfl) ?_
    obtain ⟨as, ea, la, g⟩ := cl
    walk_at "rd_cls45"
    refine ⟨⟨_, SqL.of ea⟩, for_list (xs := as.map V.ref) (fun i σ H' => ∃ v3, σ = [some (.ref l), some (.ref d), some (.int (26 ^ (((rootsF f0 n).take i).filter fun k => (gL ls k).isNone).length : Nat)), v3] ∧ H' = H) ⟨_, rfl, rfl⟩ (fun i σ H' _ ⟨_, _, e⟩ => by rw [e]; exact SqL.of ea) ?_ ?_⟩
    · rintro i v σ H1 hv ⟨v3, rfl, rfl⟩
      rw [List.getElem?_map] at hv
      obtain ⟨t, h1, rfl⟩ := Option.map_eq_some_iff.mp hv
      have hi : i < (clsF f0 n).length := by have := (List.getElem?_eq_some_iff.mp h1).1; omega
      have hi2 : i < (rootsF f0 n).length := by unfold clsF at hi; rw [List.length_map] at hi; exact hi
      have hr := List.getElem?_eq_getElem hi2
      obtain ⟨t', x1, et⟩ := g i (memF f0 n (rootsF f0 n)[i]) (by unfold clsF; rw [List.getElem?_map, hr]; rfl)
      rw [h1] at x1
      cases x1
      have htk := take_snoc hr
      have hm := mem_rootsF.mp (List.getElem_mem hi2)
      have hh := memF_head (fun k hk => (L k hk).1) (List.getElem_mem hi2)
      revert htk hm hh et
      generalize (rootsF f0 n)[i] = r0
      intro et htk hm hh
      have mp : 0 < (memF f0 n r0).length := by have := (List.getElem?_eq_some_iff.mp hh).1; omega
      have kr := ko.at' r0 hm.1
      rw [hm.2] at kr
      have e0 : (memF f0 n r0)[(0 : Int).toNat]?.getD 0 = r0 := by show (memF f0 n r0)[0]?.getD 0 = r0; rw [hh]; rfl
      walk_at "rd_cls45"
      refine rd_din ?_
      walk_at "rd_cls45"
      rw [e0]
      refine ⟨d, _, rfl, kvM_dget ed r0, ?_⟩
      rw [kr]
      have es : ∀ c : Bool, (gL ls r0).isNone = c → (((rootsF f0 n).take (i + 1)).filter fun k => (gL ls k).isNone).length = (((rootsF f0 n).take i).filter fun k => (gL ls k).isNone).length + (if c = true then 1 else 0) := fun c hc => by
        rw [htk, List.filter_append, List.length_append]
        congr 1
        cases c with
        | true => simp [hc]
        | false => simp [hc]
      cases ez : gL ls r0 with
      | none =>
        have es := es true (by rw [ez]; rfl)
        rw [if_pos rfl] at es
        walk_at "rd_cls45"
        refine rd_mul_int (Or.inr ⟨by omega, by omega⟩) ?_
        refine ⟨some (.ref t), ?_, rfl⟩
        rw [es, Nat.pow_succ, Int.natCast_mul]
        rfl
      | some c =>
        have es := es false (by rw [ez]; rfl)
        rw [if_neg (by simp)] at es
        walk_at "rd_cls45"
        refine rd_mul_int (Or.inr ⟨by omega, by omega⟩) ?_
        refine ⟨some (.ref t), ?_, rfl⟩
        rw [es, Nat.add_zero, Int.mul_one]
        rfl
    · rintro σ H1 ⟨v3, rfl, rfl⟩
      have hl : (as.map V.ref).length = (rootsF f0 n).length := by rw [List.length_map, la]; unfold clsF; rw [List.length_map]
      rw [hl, List.take_length]
      walk_at "rd_cls45"
      have := k _ (Same.refl _)
      rw [openH_roots] at this
      exact this
end
section
variable {P : Program} {w : World} {K : PySem.W.Frag} {mg : Str → Option Value} {base : Heap} {CText CPart CEditor CKeyReader CTextError CInvalidStep CInvalidOperation CDecodeError CNotationError CTooLong CInvalidPlace CInvalidLetter CContradiction CInvalidCount c_x_law_learned p_x_law_learned c_law p_law : Addr}
theorem ok_x_law_heard (T : Txt K mg CText CPart CEditor CKeyReader CTextError CInvalidStep CInvalidOperation CDecodeError CNotationError CTooLong CInvalidPlace CInvalidLetter CContradiction CInvalidCount c_x_law_learned p_x_law_learned c_law p_law) : GOk P w K mg base CX0 2 "_law_heard" (sp_x_law_heard ) := by
  refine T.d_x_law_heard.ok sc_x_law_heard (fun vs H Q E h => ?len) (fun f cdv A outer s H vs Q E hr h => ?_)
  case len => obtain ⟨Pp, l, d, f0, ls, kn, n, a, b, rfl, _⟩ := h; rfl
  · obtain ⟨Pp, l, d, f0, ls, kn, n, a, b, rfl, cl, hp, ed, ko, lok, L, ha, hb, hn, k1, k2⟩ := h
    refine ⟨_, (pss_cons (ps_set (i := 4) sc_x_law_heard.nd rfl (Or.inl rfl) (pe_g (ok_x_law_joined (K := K) T) (hr.mono (by decide)) pass0 (pa_cons (pv 0) (pa_cons (pv 2) (pa_cons (pv 3) pa_nil)))))
    (pss_cons (ps_set (i := 5) sc_x_law_heard.nd rfl (Or.inl rfl) (pe_ix (ixK (K := K) rfl) (pe_lc (own := [("_law_part", 6)]) rfl sc_x_law_heard.nd (pi_listK (K := K) rfl (pv 4)) (blkOk_by (own := [("_law_part", 6)]) (N := N_x_law_heard) (sc := (defScope s_x_law_heard)) (by first | decide +kernel | rfl)) (fun _ _ _ _ _ => (pg_name (i := 6) sc_x_law_heard.nd rfl (Or.inl rfl))) (fun _ _ _ _ _ => (pts_one (pt_cmpR (inK (K := K) rfl) (pv 2) (pv 6) rfl))) (fun _ _ _ _ _ => (pv 6))) pe_int (fun _ _ => rfl)))
    (pss_cons (ps_set (i := 7) sc_x_law_heard.nd rfl (Or.inr rfl) (pe_lc (own := [("_law_key", 8)]) rfl sc_x_law_heard.nd (pi_listK (K := K) rfl (pv 5)) (blkOk_by (own := [("_law_key", 8)]) (N := N_x_law_heard) (sc := (defScope s_x_law_heard)) (by first | decide +kernel | rfl)) (fun _ _ _ _ _ => (pg_name (i := 8) sc_x_law_heard.nd rfl (Or.inl rfl))) (fun _ _ _ _ _ => (pts_one (pt_cmp (pc_din (hu_of hr) (pv 8) (pv 1))))) (fun _ _ _ _ _ => (pe_dget (hu_of hr) (pv 1) (pv 8) (fun _ _ => rfl)))))
    (pss_cons (ps_if (pt_cmpR (neK (K := K) rfl hr.units) (pe_lc (own := [("_law_letter", 9)]) rfl sc_x_law_heard.nd (pi_listK (K := K) rfl (pv 7)) (blkOk_by (own := [("_law_letter", 9)]) (N := N_x_law_heard) (sc := (defScope s_x_law_heard)) (by first | decide +kernel | rfl)) (fun _ _ _ _ _ => (pg_name (i := 9) sc_x_law_heard.nd rfl (Or.inl rfl))) (fun _ _ _ _ _ => (pts_one (pt_cmpR (neK (K := K) rfl hr.units) (pv 9) (pe_ix (ixK (K := K) rfl) (pv 7) pe_int (fun _ _ => rfl)) (nomark _)))) (fun _ _ _ _ _ => (pv 9))) (pe_lst pa_nil) (nomark _)) (pss_one (ps_ret pe_non))
    pss_nil)
    (pss_cons (ps_set (i := 1) sc_x_law_heard.nd rfl (Or.inr rfl) (pe_callTy call_dictD rfl T.n_dict (by decide +kernel) (pa_cons (pv 1) pa_nil)))
    (pss_cons (ps_for PassesOwn.never rfl (pi_listK (K := K) rfl (pv 5)) (pg_name (i := 8) sc_x_law_heard.nd rfl (Or.inl rfl)) (pss_one (ps_if (pt_cmpR (neK (K := K) rfl hr.units) (pv 7) (pe_lst pa_nil) (nomark _)) (pss_one (ps_dput (hu_of hr) (pv 1) (pv 8) (pe_ix (ixK (K := K) rfl) (pv 7) pe_int (fun _ _ => rfl)) rfl))
    pss_nil)))
    (pss_one (ps_ret (pe_tup (pa_cons (pv 4) (pa_cons (pv 1) pa_nil))))))))))), ?_⟩
    refine rd_startE (show start N_x_law_heard [.ref l, .ref d, .int (a : Nat), .int (b : Nat)] = [some (.ref l), some (.ref d), some (.int (a : Nat)), some (.int (b : Nat)), none, none, none, none, none, none] from rfl) ?_
    walk_at "rd_cls45"
    refine rd_joined cl hp L ha hb hn fun p1 H1 S1 n1 c1 => ?_
    have ed1 := S1 _ _ ed
    have L2 := L.tie ha hb
    have hgm : tieF f0 a b a = min (f0 a) (f0 b) := by
      have a1 := L a ha
      rcases @tieF_at f0 a b a with ⟨e, t⟩ | ⟨e, t⟩
      · exact t
      · rw [t]; omega
    have mroot : min (f0 a) (f0 b) ∈ rootsF (tieF f0 a b) n := by
      rw [← hgm]
      have := L2 a ha
      exact mem_rootsF.mpr ⟨by omega, this.2⟩
    have hnil := heard_nil ko L ha hb
    have hnone := heard_none ko L ha hb
    have hsome := heard_some ko L ha hb lok
    have lkn := lok.len
    have lkk := ko.ok.len
    obtain ⟨as, ea, la, g⟩ := id c1
    have lc := clsF_len (tieF f0 a b) n
    walk_at "rd_cls45"
    refine ⟨⟨_, SqL.of ea⟩, fun D hD => lc_filt (n := as.length) (it := fun i => ((as.map V.ref)[i]?).getD .non) (by have := plain_list (K := K) (SqL.of ea); rwa [List.length_map] at this) hD (by rw [sizeLine_eq]; omega) (fun _ => rfl) (fun i => ((as.map V.ref)[i]?).getD .non) (fun i => decide (a ∈ (clsF (tieF f0 a b) n)[i]?.getD [])) (fun i H2 R2 hi S2 q => ?_) (fun i H2 Q2 hi hpi S2 q => ?_) fun H2 S2 eD => ?_⟩
    · obtain ⟨t, x1, _, x2⟩ := g i _ (List.getElem?_eq_getElem (show i < (clsF (tieF f0 a b) n).length by omega))
      rw [List.getElem?_eq_getElem (show i < (clsF (tieF f0 a b) n).length by omega), Option.getD_some] at q
      rw [List.getElem?_map, x1, Option.map_some, Option.getD_some]
      walk_at "rd_cls45"
      refine rd_inNN (S2 _ _ x2) ?_
      exact ⟨_, rfl, q _ (Same.refl _)⟩
    · walk_at "rd_cls45"
      exact q _ (Same.refl _)
    · obtain ⟨j0, hj0, ej0⟩ : ∃ j, j < as.length ∧ decide (a ∈ (clsF (tieF f0 a b) n)[j]?.getD []) = true := by
        obtain ⟨j, hj, e⟩ := List.mem_iff_getElem.mp mroot
        have hl : j < (clsF (tieF f0 a b) n).length := by unfold clsF; rw [List.length_map]; exact hj
        refine ⟨j, by omega, decide_eq_true ?_⟩
        unfold clsF
        rw [List.getElem?_map, List.getElem?_eq_getElem hj, e]
        exact mem_memF.mpr ⟨ha, hgm⟩
      obtain ⟨j, hj, ej, e0⟩ := filt_head (p := fun i => decide (a ∈ (clsF (tieF f0 a b) n)[i]?.getD [])) ⟨j0, hj0, ej0⟩
      have hjl : j < (clsF (tieF f0 a b) n).length := by omega
      have hjr : j < (rootsF (tieF f0 a b) n).length := by unfold clsF at hjl; rw [List.length_map] at hjl; exact hjl
      obtain ⟨t, x1, _, et⟩ := g j _ (List.getElem?_eq_getElem hjl)
      have ec : (clsF (tieF f0 a b) n)[j] = memF (tieF f0 a b) n (min (f0 a) (f0 b)) := by
        have h1 := of_decide_eq_true ej
        rw [List.getElem?_eq_getElem hjl, Option.getD_some] at h1
        have h2 : (clsF (tieF f0 a b) n)[j] = memF (tieF f0 a b) n ((rootsF (tieF f0 a b) n)[j]) := List.getElem_map _
        rw [h2] at h1 ⊢
        rw [← (mem_memF.mp h1).2, hgm]
      rw [ec] at et
      have et2 := S2 _ _ et
      have ed2 := S2 _ _ ed1
      have ml := memF_len (tieF f0 a b) n (min (f0 a) (f0 b))
      have e1 : (((List.range as.length).filter fun i => decide (a ∈ (clsF (tieF f0 a b) n)[i]?.getD [])).map fun i => ((as.map V.ref)[i]?).getD .non)[0]? = some (V.ref t) := by
        rw [List.getElem?_map, e0, Option.map_some, List.getElem?_map, x1]; rfl
      have S12 := S1.trans S2
      have c2 := c1.mono S2
      clear g ea x1 e0 ej hj hjl hjr ec et ed1
      have hmem := fun k hk => (mem_memF (f := tieF f0 a b) (n := n) (r := min (f0 a) (f0 b)) (k := k)).mp hk
      revert hnil hnone hsome ml et2 hmem
      generalize memF (tieF f0 a b) n (min (f0 a) (f0 b)) = ms
      intro hnil hnone hsome et2 ml hmem
      walk_at "rd_cls45"
      refine rd_ixLn (j := 0) (SqL.of eD) e1 ?_
      clear eD e1
      walk_at "rd_cls45"
      refine fun D4 hD4 => lc_filt (n := ms.length) (it := fun i => .int (ms[i]?.getD 0 : Nat)) (plain_nat et2) hD4 (by rw [sizeLine_eq]; omega) (fun _ => rfl) (fun i => .str ⟨#[(gL kn (ms[i]?.getD 0)).getD 0]⟩) (fun i => (gL kn (ms[i]?.getD 0)).isSome) (fun i H5 R5 hi S5 q => ?_) (fun i H5 Q5 hi hpi S5 q => ?_) fun H5 S5 eL => ?_
      · revert q
        generalize ms[i]?.getD 0 = z
        intro q
        walk_at "rd_cls45"
        refine rd_din ?_
        walk_at "rd_cls45"
        refine ⟨d, _, rfl, kvM_dget (S5 _ _ ed2) z, ?_⟩
        rw [Option.isSome_map]
        exact ⟨_, rfl, q _ (Same.refl _)⟩
      · revert q hpi
        generalize ms[i]?.getD 0 = z
        intro hpi q
        obtain ⟨c, ec⟩ := Option.isSome_iff_exists.mp hpi
        rw [ec] at q
        walk_at "rd_cls45"
        refine rd_dget ?_
        walk_at "rd_cls45"
        refine ⟨d, .str ⟨#[c]⟩, rfl, ?_, q _ (Same.refl _)⟩
        have := kvM_dget (S5 _ _ ed2) z
        rw [ec] at this
        exact this
      have eL : H5 D4 = some (.lst (sgV (lettL kn ms))) := by
        rw [eL, filt_natG ms (fun k => (gL kn k).isSome) fun k => V.str ⟨#[(gL kn k).getD 0]⟩]
        unfold sgV lettL
        rw [List.map_map]; rfl
      have hLL : ∀ c ∈ lettL kn ms, c ≤ 122 := fun c hc => by
        obtain ⟨k, _, e⟩ := mem_lettL.mp hc
        exact (ko.ok.let e).2.2
      have hLl : (lettL kn ms).length ≤ ms.length := by unfold lettL; rw [List.length_map]; exact List.length_filter_le _ _
      have hLd : 97 ≤ hdN (lettL kn ms) ∧ hdN (lettL kn ms) ≤ 122 ∨ lettL kn ms = [] := by
        cases e : lettL kn ms with
        | nil => exact .inr rfl
        | cons c t =>
          obtain ⟨k, _, e2⟩ := mem_lettL.mp (show c ∈ lettL kn ms by rw [e]; exact List.mem_cons_self)
          exact .inl (ko.ok.let e2).2
      have ed5 := S5 _ _ ed2
      have et5 := S5 _ _ et2
      have S15 := S12.trans S5
      have c5 := c2.mono S5
      clear c1 c2 et2 ed2
      revert hnil hnone hsome eL hLL hLl hLd
      generalize lettL kn ms = LL
      intro hnil hnone hsome eL hLL hLl hLd
      walk_at "rd_cls45"
      refine ⟨⟨_, SqL.of eL⟩, fun D6 hD6 => lc_filt (n := LL.length) (it := fun i => ((sgV LL)[i]?).getD .non) (by have := plain_list (K := K) (SqL.of eL); rw [sgV, List.length_map] at this; exact this) hD6 (by rw [sizeLine_eq]; omega) (fun _ => rfl) (fun i => .str ⟨#[LL[i]?.getD 0]⟩) (fun i => !decide (LL[i]?.getD 0 = hdN LL)) (fun i H6 R6 hi S6 q => ?_) (fun i H6 Q6 hi hpi S6 q => ?_) fun H6 S6 e6 => ?_⟩
      · have ec : ((sgV LL)[i]?).getD .non = .str ⟨#[LL[i]?.getD 0]⟩ := by unfold sgV; rw [List.getElem?_map, List.getElem?_eq_getElem hi]; rfl
        have e0 : (sgV LL)[0]? = some (.str ⟨#[hdN LL]⟩) := by unfold sgV; rw [List.getElem?_map, List.getElem?_eq_getElem (show 0 < LL.length by omega)]; show _ = some (V.str ⟨#[LL[0]?.getD 0]⟩); rw [List.getElem?_eq_getElem (show 0 < LL.length by omega)]; rfl
        rw [ec]
        revert q
        generalize LL[i]?.getD 0 = z
        intro q
        walk_at "rd_cls45"
        refine rd_ixLn (j := 0) (SqL.of (S6 _ _ eL)) e0 ?_
        walk_at "rd_cls45"
        rw [show decide ((⟨#[z]⟩ : Str) = ⟨#[hdN LL]⟩) = decide (z = hdN LL) from decide_eq_decide.mpr (by simp)]
        exact q _ (Same.refl _)
      · have ec : ((sgV LL)[i]?).getD .non = .str ⟨#[LL[i]?.getD 0]⟩ := by unfold sgV; rw [List.getElem?_map, List.getElem?_eq_getElem hi]; rfl
        rw [ec]
        walk_at "rd_cls45"
        exact q _ (Same.refl _)
      have e6 : H6 D6 = some (.lst (sgV (LL.filter fun x => !decide (x = hdN LL)))) := by
        rw [e6, filt_natG LL (fun x => !decide (x = hdN LL)) fun x => V.str ⟨#[x]⟩]; rfl
      walk_at "rd_cls45"
      intro q7 H7 S7 e7 _
      refine rd_neSS (M := []) (S7 _ _ e6) e7 (fun c hc => hLL c (List.mem_filter.mp hc).1) (fun c hc => by cases hc) ?_
      have S57 := S6.trans S7
      by_cases hc : consO f0 ls a b
      · have S17 := S15.trans S57
        have ed7 := S57 _ _ ed5
        have et7 := S57 _ _ et5
        have eL7 := S57 _ _ eL
        have c7 := c5.mono S57
        rw [decide_eq_true (hnil.mpr hc)]
        walk_at "rd_cls45"
        refine ⟨d, _, rfl, .inl ed7, fun dk ndk => ?_⟩
        have nd0 : H dk = none := Same.back S17 ndk
        have S8 : Same H7 (upd H7 dk (.dK (kvM kn))) := Same.new (Same.refl _) ndk
        have e8 := @upd_same H7 dk (.dK (kvM kn))
        revert S8 e8
        generalize upd H7 dk (.dK (kvM kn)) = H8
        intro S8 e8
        walk_at "rd_cls45"
        refine for_plain (n := ms.length) (it := fun i => .int (ms[i]?.getD 0 : Nat)) (fun i σ H' => ∃ v8, σ = [some (.ref l), some (.ref dk), some (.int (a : Nat)), some (.int (b : Nat)), some (.ref p1), some (.ref t), none, some (.ref D4), v8, none] ∧ Same H7 H' ∧ H' dk = some (.dK (kvM (if LL = [] then kn else putA kn (ms.take i) (hdN LL)))))
          ⟨_, rfl, S8, by rw [e8]; by_cases z : LL = []; (rw [if_pos z]); (rw [if_neg z]; rfl)⟩ (fun i σ H' _ ⟨_, _, S, _⟩ => plain_nat (S _ _ et7)) ?_ ?_
        · rintro i σ H9 hi ⟨v8, rfl, S9, e9⟩
          have hm := List.getElem?_eq_getElem hi
          have htk := take_snoc hm
          rw [hm, Option.getD_some]
          revert htk
          generalize ms[i] = z
          intro htk
          walk_at "rdS_cls45"
          have eL9 := S9 _ _ eL7
          walk_at "rd_cls45"
          intro q10 H10 S10 e10 _
          refine rd_neSS (M := []) (S10 _ _ eL9) e10 hLL (fun c hc => by cases hc) ?_
          have e9' := S10 _ _ e9
          by_cases hz : LL = []
          · rw [decide_eq_true hz]
            rw [if_pos hz] at e9'
            walk_at "rd_cls45"
            exact ⟨_, rfl, S9.trans S10, by rw [if_pos hz]; exact e9'⟩
          · rw [decide_eq_false hz]
            rw [if_neg hz] at e9'
            have hb2 := hLd.resolve_right hz
            have e0 : (sgV LL)[0]? = some (.str ⟨#[hdN LL]⟩) := by
              cases LL with
              | nil => exact absurd rfl hz
              | cons y t' => rfl
            have lp := (ko.ok.putA hb2.1 hb2.2 (ms.take i) fun k hk => (hmem k (List.mem_of_mem_take hk)).1).len
            walk_at "rd_cls45"
            refine rd_dput ?_
            walk_at "rd_cls45"
            refine rd_ixLn (j := 0) (SqL.of (S10 _ _ eL9)) e0 ?_
            walk_at "rd_cls45"
            refine ⟨dk, _, rfl, kvM_dput e9' (by omega) z (hdN LL), _, rfl, Same.mut (S9.trans S10) ndk, ?_⟩
            rw [upd_same, if_neg hz, htk, putA_snoc]
        · rintro σ H9 ⟨v8, rfl, S9, e9⟩
          rw [List.take_length] at e9
          walk_at "rd_cls45"
          intro q11 H11 S11 e11 _
          refine k1 hc q11 p1 dk _ H11 (S17.trans (S9.trans S11)) n1 nd0 e11 (c7.mono (S9.trans S11)) (S11 _ _ e9) ?_
          by_cases hz : LL = []
          · rw [if_pos hz]; exact hnone hz
          · rw [if_neg hz]; exact hsome hc hz
      · have hn0 : ¬ (LL.filter fun x => !decide (x = hdN LL)) = [] := fun z => hc (hnil.mp z)
        rw [decide_eq_false hn0]
        walk_at "rd_cls45"
        exact k2 hc _ (S15.trans S57)
end
local macro_rules | `(tactic| walk_at "rd1_seen45") => `(tactic| walk_at "rd1_Fa")
local macro_rules | `(tactic| walk_at "rd_seen45") => `(tactic| repeat walk_at "rd1_seen45")
local macro_rules | `(tactic| walk_at "rdS_seen45") => `(tactic| repeat ((fail_if_success with_reducible show tIfS _ _ _ _ _ _); walk_at "rd1_seen45"))
local macro_rules | `(tactic| walk_at "rd1_seen45") => `(tactic| first
  | with_reducible refine rd_par ?_ | with_reducible refine rd_two ?_ | with_reducible refine rd_lc ?_ | with_reducible refine rd_for ?_ | with_reducible refine rd_iList ?_ | with_reducible refine rd_if ?_)
section
variable {P : Program} {w : World} {K : PySem.W.Frag} {mg : Str → Option Value} {base : Heap} {CText CPart CEditor CKeyReader CTextError CInvalidStep CInvalidOperation CDecodeError CNotationError CTooLong CInvalidPlace CInvalidLetter CContradiction CInvalidCount c_x_law_learned p_x_law_learned c_law p_law : Addr}
theorem ok_x_law_seen (T : Txt K mg CText CPart CEditor CKeyReader CTextError CInvalidStep CInvalidOperation CDecodeError CNotationError CTooLong CInvalidPlace CInvalidLetter CContradiction CInvalidCount c_x_law_learned p_x_law_learned c_law p_law) : GOk P w K mg base CX0 1 "_law_seen" (sp_x_law_seen K) := by
  refine T.d_x_law_seen.ok sc_x_law_seen (fun vs H Q E h => ?len) (fun f cdv A outer s H vs Q E hr h => ?_)
  case len => obtain ⟨l, d, r, q, f0, ls, kn, ss, p, wd, rfl, _⟩ := h; rfl
  · obtain ⟨l, d, r, q, f0, ls, kn, ss, p, wd, rfl, cl, ed, er, ch, ko, L, ok, few, hw, hw2, hl, k1, k2⟩ := h
    refine ⟨_, (pss_cons (ps_set (i := 1) sc_x_law_seen.nd rfl (Or.inr rfl) (pe_callTy call_dictD rfl T.n_dict (by decide +kernel) (pa_cons (pv 1) pa_nil)))
    (pss_cons (ps_for PassesOwn.never rfl (pi_listK (K := K) rfl (pv 3)) (pg_tupK (K := K) (n := 2) rfl rfl (pgs_cons (pg_name (i := 4) sc_x_law_seen.nd rfl (Or.inl rfl)) (pgs_cons (pg_name (i := 5) sc_x_law_seen.nd rfl (Or.inr rfl)) pgs_nil))) (pss_one (ps_for PassesOwn.never rfl (pi_listK (K := K) rfl (pv 0)) (pg_name (i := 6) sc_x_law_seen.nd rfl (Or.inl rfl)) (pss_one (ps_if (pt_cmpR (inK (K := K) rfl) (pe_ix (ixK (K := K) rfl) (pv 2) (pv 4) (fun _ _ => rfl)) (pv 6) rfl) (pss_cons (ps_if (pt_cmpR (neK (K := K) rfl hr.units) (pe_lc (own := [("_law_key", 7)]) rfl sc_x_law_seen.nd (pi_listK (K := K) rfl (pv 6)) (blkOk_by (own := [("_law_key", 7)]) (N := N_x_law_seen) (sc := (defScope s_x_law_seen)) (by first | decide +kernel | rfl)) (fun _ _ _ _ _ => (pg_name (i := 7) sc_x_law_seen.nd rfl (Or.inl rfl))) (fun _ _ _ _ _ => (pts_one (pt_cmpR (neK (K := K) rfl hr.units) (pe_dget2 (hu_of hr) (pv 1) (pv 7) (pv 5) ⟨rfl, rfl, rfl, rfl⟩) (pv 5) (nomark _)))) (fun _ _ _ _ _ => (pv 7))) (pe_lst pa_nil) (nomark _)) (pss_one (ps_ret pe_non))
    pss_nil)
    (pss_one (ps_for PassesOwn.never rfl (pi_listK (K := K) rfl (pv 6)) (pg_name (i := 7) sc_x_law_seen.nd rfl (Or.inl rfl)) (pss_one (ps_dput (hu_of hr) (pv 1) (pv 7) (pv 5) rfl)))))
    pss_nil)))))
    (pss_one (ps_ret (pv 1))))), ?_⟩
    refine rd_startE (show start N_x_law_seen [.ref l, .ref d, .ref r, .ref q] = [some (.ref l), some (.ref d), some (.ref r), some (.ref q), none, none, none, none] from rfl) ?_
    have nk : (tyL ss).length ≤ 600 := by have := tyL_small ok; omega
    have hkl := ks_len ok
    obtain ⟨as, ea, la, g⟩ := cl
    obtain ⟨xs, ex, lx, hx⟩ := ch
    rw [plW_len] at lx
    walk_at "rd_seen45"
    refine ⟨d, _, rfl, .inl ed, fun dk ndk => ?_⟩
    have S1 : Same H (upd H dk (.dK (kvM kn))) := Same.new (Same.refl _) ndk
    have e1 := @upd_same H dk (.dK (kvM kn))
    revert S1 e1
    generalize upd H dk (.dK (kvM kn)) = H1
    intro S1 e1
    walk_at "rd_seen45"
    refine ⟨⟨_, SqL.of (S1 _ _ ex)⟩, for_list (xs := xs) (fun i σ H' => ∃ v4 v5 v6 v7 kn', σ = [some (.ref l), some (.ref dk), some (.ref r), some (.ref q), v4, v5, v6, v7] ∧ Same H H' ∧ H' dk = some (.dK (kvM kn')) ∧ KnO f0 (lsW f0 ss p (wd.take i) ls) (tyL ss).length kn' ∧ okW f0 ss p (wd.take i) ls)
      ⟨_, _, _, _, kn, rfl, S1, e1, ko, trivial⟩ (fun i σ H' _ ⟨_, _, _, _, _, _, S, _⟩ => SqL.of (S _ _ ex)) ?_ ?_⟩
    · rintro i v σ H2 hv ⟨v4, v5, v6, v7, kn', rfl, S2, e2, ko2, okw⟩
      have hi : i < wd.length := by have := (List.getElem?_eq_some_iff.mp hv).1; omega
      obtain ⟨hp1, hc1, hc2, T0, xT, eT⟩ := hx i _ (plW_get hi)
      rw [hv] at xT
      cases xT
      have hp1 : p + i < sz ss := hp1
      have hwi := List.getElem?_eq_getElem hi
      have htk := take_snoc hwi
      have ew : wd[i]?.getD 0 = wd[i] := by rw [hwi]; rfl
      rw [ew] at hc1 hc2 eT
      have hlen : (wd.take i).length = i := by rw [List.length_take]; omega
      have hnot := fun c' => okW_not (f := f0) (ss := ss) (p := p) (w := wd) (ls := ls) i (c' := c') hwi
      have hsnoc := okW_snocI (f := f0) (ss := ss) (p := p) (w := wd.take i) (ls := ls) (c := wd[i]) okw
      have hls := lsW_snoc (f := f0) (ss := ss) (wd.take i) p wd[i] ls
      rw [hlen] at hsnoc hls
      revert hc1 hc2 eT htk hnot hsnoc hls
      generalize wd[i] = c
      intro hc1 hc2 eT htk hnot hsnoc hls
      refine rd_gtup (SqT.of (S2 _ _ eT)) rfl ?_
      have kl := kat_lt ok hp1
      have Lk := L _ kl
      have kr : f0 (kat ss (p + i)) ∈ rootsF f0 (tyL ss).length := mem_rootsF.mpr ⟨by omega, Lk.2⟩
      have rnd := rootsF_nodup f0 (tyL ss).length
      have lcr : (clsF f0 (tyL ss).length).length = (rootsF f0 (tyL ss).length).length := by unfold clsF; rw [List.length_map]
      revert ko2 hnot hsnoc hls
      generalize lsW f0 ss p (wd.take i) ls = lsi
      intro ko2 hnot hsnoc hls
      walk_at "rd_seen45"
      refine ⟨⟨_, SqL.of (S2 _ _ ea)⟩, for_list (xs := as.map V.ref) (fun j σ H' => ∃ v6 v7 kn', σ = [some (.ref l), some (.ref dk), some (.ref r), some (.ref q), some (.int (p + i : Nat)), some (.str ⟨#[c]⟩), v6, v7] ∧ Same H H' ∧ H' dk = some (.dK (kvM kn')) ∧
          KnO f0 (if f0 (kat ss (p + i)) ∈ (rootsF f0 (tyL ss).length).take j then putL lsi (f0 (kat ss (p + i))) c else lsi) (tyL ss).length kn' ∧ (f0 (kat ss (p + i)) ∈ (rootsF f0 (tyL ss).length).take j → ∀ c', gL lsi (f0 (kat ss (p + i))) = some c' → c' = c))
        ⟨_, _, kn', rfl, S2, e2, by rw [if_neg (by simp)]; exact ko2, fun z => by simp at z⟩ (fun j σ H' _ ⟨_, _, _, _, S, _⟩ => SqL.of (S _ _ ea)) ?_ ?_⟩
      · rintro j v σ H3 hv ⟨v6, v7, kn3, rfl, S3, e3, ko3, hcs⟩
        rw [List.getElem?_map] at hv
        obtain ⟨t, h1, rfl⟩ := Option.map_eq_some_iff.mp hv
        have hj : j < (rootsF f0 (tyL ss).length).length := by have := (List.getElem?_eq_some_iff.mp h1).1; omega
        have hr := List.getElem?_eq_getElem hj
        obtain ⟨t', x1, et⟩ := g j (memF f0 (tyL ss).length (rootsF f0 (tyL ss).length)[j]) (by unfold clsF; rw [List.getElem?_map, hr]; rfl)
        rw [h1] at x1
        cases x1
        have hjk := take_snoc hr
        have hnt : (rootsF f0 (tyL ss).length)[j] ∉ (rootsF f0 (tyL ss).length).take j := fun z => by
          obtain ⟨m, hm, e⟩ := List.mem_iff_getElem.mp z
          rw [List.length_take] at hm
          rw [List.getElem_take] at e
          have := (List.getElem_inj rnd).mp e
          omega
        have hm0 := mem_rootsF.mp (List.getElem_mem hj)
        revert hjk hnt hm0 et
        generalize (rootsF f0 (tyL ss).length)[j] = rj
        intro et hjk hnt hm0
        have et3 := S3 _ _ et
        have er3 := S3 _ _ er
        walk_at "rd_seen45"
        rw [show ((ks ss)[((p + i : Nat) : Int).toNat]?.getD 0) = kat ss (p + i) from by rw [Int.toNat_natCast]; rfl]
        refine rd_inNN et3 ?_
        by_cases hin : kat ss (p + i) ∈ memF f0 (tyL ss).length rj
        · have er : rj = f0 (kat ss (p + i)) := (mem_memF.mp hin).2.symm
          subst er
          rw [if_neg hnt] at ko3
          have hsn := seen_nil (c := c) ko3 hm0.2 hm0.1
          have hput := ko3.put (r := f0 (kat ss (p + i))) hc1 hc2
          have ml := memF_len f0 (tyL ss).length (f0 (kat ss (p + i)))
          have hmem := fun k hk => (mem_memF (f := f0) (n := (tyL ss).length) (r := f0 (kat ss (p + i))) (k := k)).mp hk
          rw [decide_eq_true hin]
          clear hin
          revert hsn hput ml et3 hmem
          generalize memF f0 (tyL ss).length (f0 (kat ss (p + i))) = ms
          intro et3 hsn hput ml hmem
          walk_at "rd_seen45"
          refine fun D4 hD4 => lc_filt (n := ms.length) (it := fun i => .int (ms[i]?.getD 0 : Nat)) (plain_nat et3) hD4 (by rw [sizeLine_eq]; omega) (fun _ => rfl) (fun i => .int (ms[i]?.getD 0 : Nat)) (fun i => !decide ((gL kn3 (ms[i]?.getD 0)).getD c = c)) (fun i H5 R5 hi S5 q => ?_) (fun i H5 Q5 hi hpi S5 q => ?_) fun H5 S5 eL => ?_
          · revert q
            generalize ms[i]?.getD 0 = z
            intro q
            walk_at "rd_seen45"
            refine rd_dget2 ?_
            walk_at "rd_seen45"
            refine ⟨.inl ⟨_, .inl (S5 _ _ e3)⟩, ?_⟩
            walk_at "rd_seen45"
            refine ⟨_, kvM_dget (S5 _ _ e3) z, ?_⟩
            rw [show ((gL kn3 z).map fun c => V.str ⟨#[c]⟩).getD (.str ⟨#[c]⟩) = .str ⟨#[(gL kn3 z).getD c]⟩ by cases gL kn3 z <;> rfl]
            walk_at "rd_seen45"
            rw [show decide ((⟨#[(gL kn3 z).getD c]⟩ : Str) = ⟨#[c]⟩) = decide ((gL kn3 z).getD c = c) from decide_eq_decide.mpr (by simp)]
            exact q _ (Same.refl _)
          · walk_at "rd_seen45"
            exact q _ (Same.refl _)
          have eL : H5 D4 = some (.lst (natV (ms.filter fun k => !decide ((gL kn3 k).getD c = c)))) := by
            rw [eL, filt_natG ms (fun k => !decide ((gL kn3 k).getD c = c)) fun k => V.int (k : Nat)]; rfl
          walk_at "rd_seen45"
          intro q6 H6 S6 e6 _
          refine rd_neNN (M := []) (S6 _ _ eL) e6 ?_
          have S36 := S5.trans S6
          by_cases hc : (ms.filter fun k => !decide ((gL kn3 k).getD c = c)) = []
          · rw [decide_eq_true hc]
            have hcc := hsn.mp hc
            have e36 := S36 _ _ e3
            have et6 := S36 _ _ et3
            walk_at "rd_seen45"
            refine for_plain (n := ms.length) (it := fun i => .int (ms[i]?.getD 0 : Nat)) (fun m σ H' => ∃ v7, σ = [some (.ref l), some (.ref dk), some (.ref r), some (.ref q), some (.int (p + i : Nat)), some (.str ⟨#[c]⟩), some (.ref t), v7] ∧ Same H H' ∧ H' t = some (.lst (natV ms)) ∧ H' dk = some (.dK (kvM (putA kn3 (ms.take m) c))))
              ⟨_, rfl, S3.trans S36, et6, e36⟩ (fun m σ H' _ ⟨_, _, _, et, _⟩ => plain_nat et) ?_ ?_
            · rintro m σ H7 hm ⟨v7, rfl, S7, et7, e7⟩
              have hmm := List.getElem?_eq_getElem hm
              have hmk := take_snoc hmm
              rw [hmm, Option.getD_some]
              revert hmk
              generalize ms[m] = z
              intro hmk
              have lp := (ko3.ok.putA hc1 hc2 (ms.take m) fun k hk => (hmem k (List.mem_of_mem_take hk)).1).len
              walk_at "rd_seen45"
              refine rd_dput ?_
              walk_at "rd_seen45"
              refine ⟨dk, _, rfl, kvM_dput e7 (Nat.lt_of_le_of_lt lp (by omega)) z c, _, rfl, Same.mut S7 ndk, ?_, ?_⟩
              · rw [upd_ne fun z => by subst z; rw [e7] at et7; cases et7]; exact et7
              · rw [upd_same, hmk, putA_snoc]
            · rintro σ H7 ⟨v7, rfl, S7, et7, e7⟩
              rw [List.take_length] at e7
              exact ⟨_, _, _, rfl, S7, e7, by rw [hjk, if_pos (List.mem_append_right _ List.mem_cons_self)]; exact hput, fun _ => hcc⟩
          · rw [decide_eq_false hc]
            walk_at "rd_seen45"
            obtain ⟨c', h1, h2⟩ : ∃ c', gL lsi (f0 (kat ss (p + i))) = some c' ∧ c' ≠ c := Classical.byContradiction fun z => hc (hsn.mpr fun c' g => Classical.byContradiction fun n => z ⟨c', g, n⟩)
            exact k2 (hnot c' h1 h2) _ (S3.trans S36)
        · rw [decide_eq_false hin]
          walk_at "rd_seen45"
          have ne : ¬ f0 (kat ss (p + i)) = rj := fun z => hin (mem_memF.mpr ⟨kl, z⟩)
          have eq : (f0 (kat ss (p + i)) ∈ (rootsF f0 (tyL ss).length).take (j + 1)) = (f0 (kat ss (p + i)) ∈ (rootsF f0 (tyL ss).length).take j) := by
            rw [hjk]
            exact propext ⟨fun z => (List.mem_append.mp z).resolve_right fun y => ne (List.mem_singleton.mp y), fun z => List.mem_append_left _ z⟩
          exact ⟨_, _, kn3, rfl, S3, e3, by simp only [eq]; exact ko3, by rw [eq]; exact hcs⟩
      · rintro σ H3 ⟨v6, v7, kn3, rfl, S3, e3, ko3, hcs⟩
        have hl' : (as.map V.ref).length = (rootsF f0 (tyL ss).length).length := by rw [List.length_map, la, lcr]
        rw [hl', List.take_length] at ko3 hcs
        rw [if_pos kr] at ko3
        have hcs := hcs kr
        exact ⟨_, _, _, _, kn3, rfl, S3, e3, by rw [htk, hls]; exact ko3, by rw [htk]; exact hsnoc hcs⟩
    · rintro σ H2 ⟨v4, v5, v6, v7, kn', rfl, S2, e2, ko2, okw⟩
      rw [lx, List.take_length] at ko2 okw
      walk_at "rd_seen45"
      exact k1 okw dk H2 kn' S2 ndk e2 ko2
end
local macro_rules | `(tactic| walk_at "rd1_row45") => `(tactic| walk_at "rd1_Fa")
local macro_rules | `(tactic| walk_at "rd_row45") => `(tactic| repeat walk_at "rd1_row45")
local macro_rules | `(tactic| walk_at "rdS_row45") => `(tactic| repeat ((fail_if_success with_reducible show tIfS _ _ _ _ _ _); walk_at "rd1_row45"))
local macro_rules | `(tactic| walk_at "rd1_row45") => `(tactic| first
  | with_reducible refine rd_par ?_ | with_reducible refine rd_two ?_ | with_reducible refine rd_lc ?_ | with_reducible refine rd_sl ?_ | with_reducible refine rd_noPart ?_ | with_reducible refine rd_part ?_ | with_reducible refine rd_pint ?_ | with_reducible refine rd_if ?_)
section
variable {P : Program} {w : World} {K : PySem.W.Frag} {mg : Str → Option Value} {base : Heap} {CText CPart CEditor CKeyReader CTextError CInvalidStep CInvalidOperation CDecodeError CNotationError CTooLong CInvalidPlace CInvalidLetter CContradiction CInvalidCount c_x_law_learned p_x_law_learned c_law p_law : Addr}
theorem ok_x_law_row (T : Txt K mg CText CPart CEditor CKeyReader CTextError CInvalidStep CInvalidOperation CDecodeError CNotationError CTooLong CInvalidPlace CInvalidLetter CContradiction CInvalidCount c_x_law_learned p_x_law_learned c_law p_law) : GOk P w K mg base CX0 3 "_law_row" (sp_x_law_row K) := by
  refine T.d_x_law_row.ok sc_x_law_row (fun vs H Q E h => ?len) (fun f cdv A outer s H vs Q E hr h => ?_)
  case len => obtain ⟨r, l, ss, rfl, _⟩ := h; rfl
  · obtain ⟨r, l, ss, rfl, row, el, ok, few, h1, h2, k⟩ := h
    refine ⟨_, (pss_cons (ps_par (i := 3) (j := 4) rfl sc_x_law_row.nd rfl rfl (by decide) rfl rfl (pa_cons (pe_g (ok_x_law_next (K := K) T) (hr.mono (by decide)) pass0 (pa_cons (pv 0) (pa_cons (pe_callB (lenK (K := K) rfl) rfl T.n_len (by decide +kernel) (pa_cons (pv 2) pa_nil)) pa_nil))) (pa_cons (pe_g (ok_x_law_next (K := K) T) (hr.mono (by decide)) pass0 (pa_cons (pv 0) (pa_cons (pe_callB (lenK (K := K) rfl) rfl T.n_len (by decide +kernel) (pa_cons (pv 2) pa_nil)) pa_nil))) pa_nil)) rfl)
    (pss_cons (ps_set (i := 5) sc_x_law_row.nd rfl (Or.inl rfl) (pe_g (ok_x_law_next (K := K) T) (hr.mono (by decide)) pass0 (pa_cons (pv 0) (pa_cons pe_int pa_nil))))
    (pss_cons (ps_if (pt_cmpR (eqK (K := K) rfl hr.units) (pv 5) pe_int (nomark _)) (pss_one (ps_ret (pe_tup (pa_cons pe_str (pa_cons (pv 3) (pa_cons (pv 4) pa_nil))))))
    pss_nil)
    (pss_cons (ps_set (i := 6) sc_x_law_row.nd rfl (Or.inl rfl) (pe_joinK (K := K) rfl pe_str (pe_lc (own := [("_law_key", 7)]) rfl sc_x_law_row.nd (pi_listK (K := K) rfl (pe_slice (slK (K := K) rfl) (pv 2) (po_some (pv 3)) (po_some (pe_op (addK (K := K) rfl) (pe_op (addK (K := K) rfl) (pv 3) pe_int) (pe_g (ok_x_law_next (K := K) T) (hr.mono (by decide)) pass0 (pa_cons (pv 0) (pa_cons pe_int pa_nil))))))) (blkOk_by (own := [("_law_key", 7)]) (N := N_x_law_row) (sc := (defScope s_x_law_row)) (by first | decide +kernel | rfl)) (fun _ _ _ _ _ => (pg_name (i := 7) sc_x_law_row.nd rfl (Or.inl rfl))) (fun _ _ _ _ _ => pts_nil) (fun _ _ _ _ _ => (pe_ix (ixK (K := K) rfl) (pv 1) (pv 7) (fun _ _ => rfl))))))
    (pss_cons (ps_set (i := 6) sc_x_law_row.nd rfl (Or.inl rfl) (pe_op (addK (K := K) rfl) (pe_slice sl_str (pv 6) po_none (po_some (pe_un un_neg pe_int))) (pe_g (ok_x_law_pick (K := K) T) (hr.mono (by decide)) pass0 (pa_cons (pv 0) (pa_cons (pe_op (addK (K := K) rfl) (pe_op oMul (pe_lst (pa_cons (pe_ix (ixK (K := K) rfl) (pv 6) (pe_un un_neg pe_int) (fun _ _ => rfl)) pa_nil)) pe_int) (pe_lst (pa_cons pe_str pa_nil))) pa_nil)))))
    (pss_one (ps_ret (pe_ifExp (pt_cmpR (eqK (K := K) rfl hr.units) (pv 5) pe_int (nomark _)) (pe_tup (pa_cons pe_str (pa_cons (pv 3) (pa_cons (pe_ix (ixK (K := K) rfl) (pv 6) pe_int (fun _ _ => rfl)) pa_nil)))) (pe_tup (pa_cons pe_str (pa_cons (pv 3) (pa_cons (pv 6) pa_nil)))))))))))), ?_⟩
    refine rd_startE (show start N_x_law_row [.ref r, .str (mkS (tyL ss)), .ref l] = [some (.ref r), some (.str (mkS (tyL ss))), some (.ref l), none, none, none, none, none] from rfl) ?_
    have hkl := ks_len ok
    have nk : (tyL ss).length ≤ 600 := by have := tyL_small ok; omega
    have lo := letters_ok ok
    walk_at "rd_row45"
    refine rd_nextD row (by omega) (by omega) fun p H1 hp k1 row1 => ?_
    have el1 := k1 _ _ nr_natV el
    walk_at "rd_row45"
    refine rd_nextD row1 (by omega) (by omega) fun p2 H2 hp2 k2 row2 => ?_
    have el2 := k2 _ _ nr_natV el1
    walk_at "rd_row45"
    refine rd_nextD row2 (by omega) (by omega) fun pk H3 hpk k3 row3 => ?_
    have el3 := k3 _ _ nr_natV el2
    have K3 := (k1.trans k2).trans k3
    walk_at "rd_row45"
    refine rd_ite (fun g => ?_) (fun g => ?_)
    · walk_at "rd_row45"
      intro q4 H4 S4 e4 _
      exact k q4 (.alike p p2) H4 (K3.trans (.same S4)) (row3.mono S4) (SqT.of e4) ⟨by omega, by omega⟩
    · walk_at "rd_row45"
      refine rd_nextD row3 (by omega) (by omega) fun m H4 hm k4 row4 => ?_
      have el4 := k4 _ _ nr_natV el3
      walk_at "rd_row45"
      refine rd_slNIJ el4 (by omega) (by omega) fun ls H5 S5 e5 => ?_
      rw [show ((((p : Nat) : Int) + 1 + (m : Nat)) - (p : Nat)).toNat = 1 + m by omega] at e5
      have hL1 : 1 ≤ (((ks ss).drop p).take (1 + m)).length := by rw [List.length_take, List.length_drop]; omega
      have hL4 : (((ks ss).drop p).take (1 + m)).length ≤ 4 := by rw [List.length_take, List.length_drop]; omega
      have hLp : p + (((ks ss).drop p).take (1 + m)).length ≤ sz ss := by rw [List.length_take, List.length_drop]; omega
      have hLk : ∀ z ∈ ((ks ss).drop p).take (1 + m), z < (tyL ss).length := fun z hz => ks_lt (List.mem_of_mem_drop (List.mem_of_mem_take hz))
      have K5 := (K3.trans k4).trans (.same S5)
      have row5 := row4.mono S5
      revert e5 hL1 hL4 hLp hLk
      generalize ((ks ss).drop p).take (1 + m) = L
      intro e5 hL1 hL4 hLp hLk
      walk_at "rd_row45"
      refine fun D hD => lc_fun (plain_nat e5) hD (by rw [sizeLine_eq]; omega) (fun _ => rfl) (fun i => .str ⟨#[(tyL ss)[L[i]?.getD 0]?.getD 0]⟩) (fun i H6 Q6 hi S6 q => ?_) fun H6 S6 eD => ?_
      · have hz : L[i]?.getD 0 < (tyL ss).length := by rw [List.getElem?_eq_getElem hi]; exact hLk _ (List.getElem_mem hi)
        revert hz q
        generalize L[i]?.getD 0 = z
        intro q hz
        walk_at "rd_row45"
        exact q _ (Same.refl _)
      have eD : H6 D = some (.lst (sgV (L.map fun z => (tyL ss)[z]?.getD 0))) := by
        rw [eD, range_mapN L fun z => V.str ⟨#[(tyL ss)[z]?.getD 0]⟩]; unfold sgV; rw [List.map_map]; rfl
      have hW : ∀ c ∈ L.map fun z => (tyL ss)[z]?.getD 0, 97 ≤ c ∧ c ≤ 122 := fun c hc => by
        obtain ⟨z, hz, rfl⟩ := List.mem_map.mp hc
        have := hLk z hz
        rw [List.getElem?_eq_getElem this]
        exact lo _ (List.getElem_mem this)
      have hWl : (L.map fun z => (tyL ss)[z]?.getD 0).length = L.length := List.length_map _
      have K6 := K5.trans (.same S6)
      have row6 := row5.mono S6
      revert eD hW hWl
      generalize (L.map fun z => (tyL ss)[z]?.getD 0) = W
      intro eD hW hWl
      refine rd_joinS eD (by omega) ?_
      walk_at "rd_row45"
      refine rd_slS1 (by omega) (by omega) ?_
      walk_at "rd_row45"
      obtain ⟨c, hc⟩ : ∃ c, W.getLast? = some c := by
        cases e : W.getLast? with
        | none => rw [List.getLast?_eq_none_iff] at e; rw [e] at hWl; simp at hWl; omega
        | some c => exact ⟨c, rfl⟩
      have hcW := hW c (List.mem_of_getLast? hc)
      refine rd_ixCl (by omega) hc ?_
      walk_at "rd_row45"
      intro q7 H7 S7 e7 _
      walk_at "rd_row45"
      refine rd_mul_lst (k := 4) e7 (by decide) (by rw [sizeLine_eq]; show 1 * 4 ≤ 16777216; decide) fun q8 n8 => ?_
      have S8 : Same H7 (upd H7 q8 (.lst (List.replicate 4 [V.str ⟨#[c]⟩]).flatten)) := Same.new (Same.refl _) n8
      have e8 : upd H7 q8 (.lst (List.replicate 4 [V.str ⟨#[c]⟩]).flatten) q8 = some (.lst [V.str ⟨#[c]⟩, V.str ⟨#[c]⟩, V.str ⟨#[c]⟩, V.str ⟨#[c]⟩]) := upd_same
      revert S8 e8
      generalize upd H7 q8 (.lst (List.replicate 4 [V.str ⟨#[c]⟩]).flatten) = H8
      intro S8 e8
      walk_at "rd_row45"
      intro q9 H9 S9 e9 _
      walk_at "rd_row45"
      refine rd_addSame (S9 _ _ e8) e9 (by rw [sizeLine_eq]; show 4 + 1 ≤ 16777216; decide) fun q10 H10 S10 _ e10 => ?_
      have S610 := ((S7.trans S8).trans S9).trans S10
      walk_at "rd_row45"
      refine rd_pick (row6.mono S610) (SqL.of e10) (nr_vals fun v hv => by simp at hv; rcases hv with rfl | rfl <;> rfl) (by show 1 ≤ 5; decide) (by show 5 ≤ 1000; decide) fun j v H11 hv k11 row11 => ?_
      have K11 := (K6.trans (.same S610)).trans k11
      obtain ⟨x, rfl, hx⟩ : ∃ x, v = .str ⟨#[x]⟩ ∧ 97 ≤ x ∧ x ≤ 122 := by
        have hm := List.mem_of_getElem? hv
        simp at hm
        rcases hm with rfl | rfl
        · exact ⟨c, rfl, hcW⟩
        · exact ⟨113, congrArg V.str (by decide +kernel), by decide, by decide⟩
      have hw1 : ∀ z ∈ W.take (W.length - 1) ++ [x], 97 ≤ z ∧ z ≤ 122 := fun z hz => by
        rcases List.mem_append.mp hz with hz | hz
        · exact hW z (List.mem_of_mem_take hz)
        · rw [List.mem_singleton.mp hz]; exact hx
      have hw2 : (W.take (W.length - 1) ++ [x]).length = L.length := by rw [List.length_append, List.length_take, List.length_singleton]; omega
      have hws : mkS (W.take (W.length - 1)) ++ (⟨#[x]⟩ : Str) = mkS (W.take (W.length - 1) ++ [x]) := mkS_app _ [x]
      refine rd_add_str (by rw [mkS_len, List.length_take, sizeLine_eq]; show _ + 1 ≤ _; omega) ?_
      rw [hws]
      revert hw1 hw2
      generalize W.take (W.length - 1) ++ [x] = W2
      intro hw1 hw2
      walk_at "rd_row45"
      refine rd_ite (fun g0 => ?_) (fun g0 => ?_)
      · walk_at "rd_row45"
        intro q12 H12 S12 e12 _
        have hz : W2[(0 : Int).toNat]?.getD 0 ∈ W2 := by
          rw [show (0 : Int).toNat = 0 from rfl, List.getElem?_eq_getElem (show 0 < W2.length by omega)]
          exact List.getElem_mem _
        exact k q12 (.see p (W2[(0 : Int).toNat]?.getD 0)) H12 (K11.trans (.same S12)) (row11.mono S12) (SqT.of e12) ⟨by omega, hw1 _ hz⟩
      · walk_at "rd_row45"
        intro q12 H12 S12 e12 _
        exact k q12 (.word p W2) H12 (K11.trans (.same S12)) (row11.mono S12) (SqT.of e12) ⟨by omega, by omega, by omega, hw1⟩
end
section
variable {P : Program} {w : World} {K : PySem.W.Frag} {mg : Str → Option Value} {base : Heap} {CText CPart CEditor CKeyReader CTextError CInvalidStep CInvalidOperation CDecodeError CNotationError CTooLong CInvalidPlace CInvalidLetter CContradiction CInvalidCount c_x_law_learned p_x_law_learned c_law p_law : Addr}
theorem okR_x_law_observe (T : Txt K mg CText CPart CEditor CKeyReader CTextError CInvalidStep CInvalidOperation CDecodeError CNotationError CTooLong CInvalidPlace CInvalidLetter CContradiction CInvalidCount c_x_law_learned p_x_law_learned c_law p_law) : GOk P w K mg base (L2.CX P w) 6 "_law_observe" (sp_x_law_observeR K CText CPart CKeyReader CContradiction) := by
  refine T.d_x_law_observe.okX sc_x_law_observe (fun vs H Q E h => ?len) (fun f cdv A outer s H vs Q E hr h => ?_)
  case len => obtain ⟨x, h', d, ss, f, ls, ob, o, rfl, _⟩ := h; cases o <;> rfl
  · obtain ⟨x, hl, d, ss, f, ls, ob, o, rfl, R, hx, ho, q, qE⟩ := h
    refine ⟨_, (pss_cons (ps_if (pt_cmpR (eqK (K := K) rfl hr.units) (pv 1) pe_str (nomark _)) (pss_one (ps_ret (pe_m (pv 0) T.cKeyReader (okR_KeyReader_see (K := K) T) (hr.mono (by decide)) (passX (takes_of rfl rfl rfl rfl)) (pa_cons (pv 2) (pa_cons (pv 3) pa_nil)))))
    pss_nil)
    (pss_one (ps_ret (pe_ifExp (pt_cmpR (eqK (K := K) rfl hr.units) (pv 1) pe_str (nomark _)) (pe_m (pv 0) T.cKeyReader (okR_KeyReader_see_word (K := K) T) (hr.mono (by decide)) (passX (takes_of rfl rfl rfl rfl)) (pa_cons (pv 2) (pa_cons (pv 3) pa_nil))) (pe_m (pv 0) T.cKeyReader (okR_KeyReader_hear_alike (K := K) T) (hr.mono (by decide)) (passX (takes_of rfl rfl rfl rfl)) (pa_cons (pv 2) (pa_cons (pv 3) pa_nil))))))), ?_⟩
    cases o with
    | see p c =>
      obtain ⟨h1, h2, h3⟩ := hx
      refine rd_startE (show start N_x_law_observe [.ref x, .str "see", .int (p : Nat), .str ⟨#[c]⟩] = [some (.ref x), some (.str "see"), some (.int (p : Nat)), some (.str ⟨#[c]⟩)] from rfl) ?_
      walk_at "rd_Fa"
      refine ⟨R.insM, ?_⟩
      walk_at "rd_Fa"
      refine ⟨x, hl, d, ss, f, ls, ob, p, c, rfl, R, h1, h2, h3, ho, fun hc => q hc, fun c' g n H' S => qE (fun z => n (z c' g)) H' d (Bt.same S) (.inl rfl) (R.same S)⟩
    | word p wd =>
      obtain ⟨h1, h2, h3, h4⟩ := hx
      refine rd_startE (show start N_x_law_observe [.ref x, .str "see_word", .int (p : Nat), .str (mkS wd)] = [some (.ref x), some (.str "see_word"), some (.int (p : Nat)), some (.str (mkS wd))] from rfl) ?_
      walk_at "rd_Fa"
      refine ⟨R.insM, ?_⟩
      walk_at "rd_Fa"
      refine ⟨x, hl, d, ss, f, ls, ob, p, wd, rfl, R, h3, h1, by omega, h4, ho, fun hc => q hc, fun n H' kd B nk _ _ R' => qE n H' kd B (.inr nk) R'⟩
    | alike p p2 =>
      obtain ⟨h1, h2⟩ := hx
      refine rd_startE (show start N_x_law_observe [.ref x, .str "hear_alike", .int (p : Nat), .int (p2 : Nat)] = [some (.ref x), some (.str "hear_alike"), some (.int (p : Nat)), some (.int (p2 : Nat))] from rfl) ?_
      walk_at "rd_Fa"
      refine ⟨R.insM, ?_⟩
      walk_at "rd_Fa"
      refine ⟨x, hl, d, ss, f, ls, ob, p, p2, rfl, R, h1, h2, ho, fun hc => q hc, fun c c' g g' n H' S => qE (fun z => n (z c c' g g')) H' d (Bt.same S) (.inl rfl) (R.same S)⟩
end
local macro_rules | `(tactic| walk_at "rd1_Fl") => `(tactic| first
  | with_reducible refine rd_seq ?_ | with_reducible refine rd_asg ?_ | with_reducible refine rd_name ?_ | ((with_reducible refine' rd_var ?k1 ?_); (case k1 => rfl)) | with_reducible refine rd_C ?_ | with_reducible refine rd_op ?_ | with_reducible refine rd_cons ?_ | with_reducible refine rd_nil ?_
  | with_reducible refine rd_test ?_ | with_reducible refine rd_tB ?_ | with_reducible refine rd_bl ?_ | with_reducible refine rd_ifS ?_ | with_reducible refine rd_and ?_ | with_reducible refine rd_or ?_ | with_reducible refine rd_not ?_ | with_reducible refine rd_andV ?_ | with_reducible refine rd_orV ?_ | with_reducible refine rd_notV ?_ | with_reducible refine rd_chain ?_
  | with_reducible refine rd_if ?_ | with_reducible refine rd_g ?_ | with_reducible refine rd_m ?_ | with_reducible refine rd_star ?_ | with_reducible refine rd_tup ?_ | with_reducible refine rd_lst ?_ | with_reducible refine rd_fld ?_ | with_reducible refine rd_cb ?_ | with_reducible refine rd_un ?_ | with_reducible refine rd_makeR ?_ | with_reducible refine rd_makeS ?_
  | with_reducible refine rd_bm ?_ | with_reducible refine rd_bm0 ?_ | with_reducible refine rd_next ?_ | with_reducible refine rd_break ?_ | with_reducible refine rd_cont ?_ | with_reducible refine rd_ret ?_ | with_reducible refine rd_retN ?_ | with_reducible refine rd_drop ?_ | with_reducible refine rd_gcons ?_ | with_reducible refine rd_gnil ?_ | with_reducible refine rd_gsub ?_
  | ((with_reducible refine' rd_aug ?k1 ?_); (case k1 => rfl)) | with_reducible refine rd_ipI ?_ | with_reducible refine rd_sfld ?_ | with_reducible refine rd_for ?_ | with_reducible refine rd_iStr ?_ | with_reducible refine rd_iList ?_ | with_reducible refine rd_iTup ?_ | with_reducible refine rd_iRng1 ?_ | with_reducible refine rd_iRng2 ?_ | with_reducible refine rd_iEnumT ?_ | with_reducible refine rd_match ?_ | with_reducible refine rd_par ?_ | with_reducible refine rd_two ?_
  | with_reducible refine rd_sl ?_ | with_reducible refine rd_noPart ?_ | with_reducible refine rd_part ?_ | with_reducible refine rd_pint ?_ | with_reducible refine rd_listRg ?_ | with_reducible refine rd_rg1 ?_ | with_reducible refine rd_rg2 ?_ | with_reducible refine rd_ixO ?_ | with_reducible refine rd_U ?_ | with_reducible refine rd_int_int ?_ | with_reducible refine rd_int_bl ?_ | with_reducible refine rd_min2 ?_ | with_reducible refine rd_max2 ?_ | with_reducible refine rd_in_sign ?_ | with_reducible refine rd_isN ?_ | with_reducible refine rd_notN ?_
  | with_reducible refine rd_lc ?_ | with_reducible refine rd_yes ?_ | with_reducible refine rd_prop ?_ | with_reducible refine rd_cmeth ?_ | with_reducible refine rd_o ?_ | with_reducible refine rd_add_int ?_ | with_reducible refine rd_sub ?_ | with_reducible refine rd_eq_int ?_ | with_reducible refine rd_eq_str ?_ | with_reducible refine rd_eq_bl ?_ | with_reducible refine rd_ne_int ?_ | with_reducible refine rd_ne_str ?_ | with_reducible refine rd_ne_bl ?_ | with_reducible refine rd_I0 ?_
  | with_reducible refine rd_isi_int_int ?_ | with_reducible refine rd_isi_int_bool ?_ | with_reducible refine rd_isi_int_str ?_ | with_reducible refine rd_isi_int_list ?_ | with_reducible refine rd_isi_int_tuple ?_ | with_reducible refine rd_isi_bl_int ?_ | with_reducible refine rd_isi_bl_bool ?_ | with_reducible refine rd_isi_bl_str ?_ | with_reducible refine rd_isi_bl_list ?_ | with_reducible refine rd_isi_bl_tuple ?_ | with_reducible refine rd_isi_str_int ?_ | with_reducible refine rd_isi_str_bool ?_ | with_reducible refine rd_isi_str_str ?_ | with_reducible refine rd_isi_str_list ?_ | with_reducible refine rd_isi_str_tuple ?_ | with_reducible refine rd_isi_non_int ?_ | with_reducible refine rd_isi_non_bool ?_ | with_reducible refine rd_isi_non_str ?_ | with_reducible refine rd_isi_non_list ?_ | with_reducible refine rd_isi_non_tuple ?_)
local macro_rules | `(tactic| walk_at "rd_Fl") => `(tactic| repeat walk_at "rd1_Fl")
local macro_rules | `(tactic| walk_at "same_Fl") => `(tactic| first | assumption | exact Same.refl _ | (refine Same.new ?_ (by assumption); walk_at "same_Fl") | (refine Same.mut ?_ (by assumption); walk_at "same_Fl") | (refine Same.trans ?_ (by assumption); walk_at "same_Fl"))
local macro_rules | `(tactic| walk_at "zl_Fl") => `(tactic| (rw [sizeLine_eq]; first | decide | (simp only [List.length_cons, List.length_nil]; omega) | omega))
local macro_rules | `(tactic| walk_at "sm_Fl") => `(tactic| first | exact Same.refl _ | assumption | ((with_reducible refine' Same.trans ?sx ?sy); (case sy => assumption); (case sx => walk_at "sm_Fl")))
local macro_rules | `(tactic| walk_at "kp_Fl") => `(tactic| first | exact Kp.refl | assumption | ((with_reducible refine' Kp.trans ?kx ?ky); (case ky => assumption); (case kx => walk_at "kp_Fl")) | ((with_reducible refine' Kp.trans ?kx (Kp.same ?ky)); (case ky => assumption); (case kx => walk_at "kp_Fl")))
local macro_rules | `(tactic| walk_at "tx_Fl") => `(tactic| first | assumption | ((with_reducible refine' TX.kp ?tx1 ?tx2); (case tx1 => assumption); (case tx2 => walk_at "kp_Fl")))
local macro_rules | `(tactic| walk_at "ts_Fl") => `(tactic| first | assumption | ((with_reducible refine' TS'.kp ?tx1 ?tx2); (case tx1 => assumption); (case tx2 => walk_at "kp_Fl")) | ((with_reducible refine' ts_nil ?tx1); (case tx1 => assumption)))
local macro_rules | `(tactic| walk_at "sx_Fl") => `(tactic| first | assumption | ((with_reducible refine' SX.kp ?tx1 ?tx2); (case tx1 => assumption); (case tx2 => walk_at "kp_Fl")) | ((with_reducible refine' TS'.sx ?tx1); (case tx1 => walk_at "ts_Fl")))
local macro_rules | `(tactic| walk_at "row_Fl") => `(tactic| first | assumption | ((with_reducible refine' RowAt.mono ?tx1 ?tx2); (case tx1 => assumption); (case tx2 => walk_at "sm_Fl")))
local macro_rules | `(tactic| walk_at "ls_Fl") => `(tactic| first | assumption | ((with_reducible refine' kp_natV ?tx1 ?tx2); (case tx1 => assumption); (case tx2 => walk_at "kp_Fl")) | ((with_reducible refine' kp_sgV ?tx1 ?tx2); (case tx1 => assumption); (case tx2 => walk_at "kp_Fl")) | ((refine' Same.lk ?tx1 ?tx2); (case tx1 => assumption); (case tx2 => walk_at "sm_Fl")))
local macro_rules | `(tactic| walk_at "om_Fl") => `(tactic| first | omega | with_reducible assumption)
local macro_rules | `(tactic| walk_at "rd1_Fl") => `(tactic| first
  | with_reducible refine rd_cons ?_ | ((with_reducible refine' rd_var ?k1 ?_); (case k1 => rfl)) | with_reducible refine rd_C ?_ | with_reducible refine rd_nil ?_ | with_reducible refine rd_op ?_ | with_reducible refine rd_g ?_
  | ((with_reducible refine' rd_nameE ?k1 ?_); (case k1 => (dsimp only [List.set_cons_zero, List.set_cons_succ]; exact rfl))) | with_reducible refine rd_asg ?_ | with_reducible refine rd_seq ?_ | with_reducible refine rd_andrfl ?_ | with_reducible refine rd_prop ?_ | with_reducible refine rd_cb ?_ | with_reducible refine rd_test ?_ | with_reducible refine rd_bl ?_ | with_reducible refine rd_ifS ?_ | with_reducible refine rd_next ?_
  | with_reducible refine rd_tupN ?_ | with_reducible refine rd_lstN ?_ | with_reducible refine rd_add_int ?_ | with_reducible refine rd_sub ?_ | with_reducible refine rd_tB ?_ | with_reducible refine rd_not ?_ | with_reducible refine rd_and ?_ | with_reducible refine rd_or ?_ | with_reducible refine rd_ret ?_ | with_reducible refine rd_cmeth ?_ | with_reducible refine rd_o ?_ | with_reducible refine rd_I0 ?_
  | ((with_reducible show @Eq (Option HO) _ Option.none → _); intro) | with_reducible refine rd_m1 ?_ | with_reducible refine rd_exStr ?_ | ((with_reducible refine' rd_iNat ?k1 ?_); (case k1 => walk_at "ls_Fl"))
  | ((with_reducible refine' rd_taken ?k1 ?k2 ?k3 ?_); (case k1 => walk_at "row_Fl"); (case k2 => walk_at "om_Fl"); (case k3 => walk_at "om_Fl"))
  | ((with_reducible refine' rd_word ?k1 ?k2 ?k3 ?_); (case k1 => walk_at "row_Fl"); (case k2 => walk_at "om_Fl"); (case k3 => walk_at "om_Fl"))
  | ((with_reducible refine' rd_stepsL ?k1 ?k2 ?k3 ?k4 ?k5 ?_); (case k1 => walk_at "row_Fl"); (case k2 => walk_at "om_Fl"); (case k3 => walk_at "om_Fl"); (case k4 => walk_at "om_Fl"); (case k5 => walk_at "om_Fl"))
  | ((with_reducible refine' rd_listS ?k1 ?_); (case k1 => walk_at "ts_Fl"))
  | ((with_reducible refine' rd_ofSteps ?k1 ?k2 ?k3 ?_); (case k1 => walk_at "sx_Fl"); (case k2 => walk_at "om_Fl"); (case k3 => walk_at "om_Fl"))
  | ((with_reducible refine' rd_pSize ?k1 ?_); (case k1 => walk_at "tx_Fl"))
  | ((with_reducible refine' rd_pTyped ?k1 ?_); (case k1 => walk_at "tx_Fl"))
  | ((with_reducible refine' rd_pSteps ?k1 ?_); (case k1 => walk_at "tx_Fl"))
  | ((with_reducible refine' rd_oCall ?k1 ?k2 ?k3 ?_); (case k1 => walk_at "tx_Fl"); (case k2 => walk_at "om_Fl"); (case k3 => walk_at "om_Fl"))
  | ((with_reducible refine' rd_oItem ?k1 ?k2 ?k3 ?_); (case k1 => walk_at "tx_Fl"); (case k2 => walk_at "om_Fl"); (case k3 => walk_at "om_Fl"))
  | ((with_reducible refine' rd_opAdd ?k1 ?k2 ?k3 ?k4 ?_); (case k1 => walk_at "tx_Fl"); (case k2 => walk_at "tx_Fl"); (case k3 => walk_at "om_Fl"); (case k4 => walk_at "om_Fl"))
  | ((with_reducible refine' rd_opMul ?k1 ?k2 ?k3 ?k4 ?k5 ?_); (case k1 => walk_at "tx_Fl"); (case k2 => walk_at "om_Fl"); (case k3 => walk_at "om_Fl"); (case k4 => walk_at "om_Fl"); (case k5 => walk_at "om_Fl"))
  | ((with_reducible refine' rd_opEq ?k1 ?k2 ?_); (case k1 => walk_at "tx_Fl"); (case k2 => walk_at "tx_Fl"))
  | ((with_reducible refine' rd_opEqT ?k1 ?k2 ?_); (case k1 => walk_at "tx_Fl"); (case k2 => walk_at "ts_Fl"))
  | ((with_reducible refine' rd_opNe ?k1 ?k2 ?_); (case k1 => walk_at "tx_Fl"); (case k2 => walk_at "tx_Fl"))
  | ((with_reducible refine' rd_mTx ?k1 ?k2 ?_); (case k1 => walk_at "tx_Fl"); (case k2 => decide +kernel))
  | ((with_reducible refine' rd_mRetyped ?k1 ?k2 ?k3 ?_); (case k1 => walk_at "tx_Fl"); (case k2 => walk_at "om_Fl"); (case k3 => walk_at "om_Fl"))
  | ((with_reducible refine' rd_eqTT ?k1 ?k2 ?k3 ?k4 ?_); (case k1 => walk_at "ts_Fl"); (case k2 => walk_at "ts_Fl"); (case k3 => first | assumption | trivial); (case k4 => first | assumption | trivial))
  | ((with_reducible refine' rd_neTT ?k1 ?k2 ?k3 ?k4 ?_); (case k1 => walk_at "ts_Fl"); (case k2 => walk_at "ts_Fl"); (case k3 => first | assumption | trivial); (case k4 => first | assumption | trivial))
  | ((with_reducible refine' rd_neNN ?k1 ?k2 ?_); (case k1 => walk_at "ls_Fl"); (case k2 => walk_at "ls_Fl"))
  | ((with_reducible refine' rd_eqNN ?k1 ?k2 ?_); (case k1 => walk_at "ls_Fl"); (case k2 => walk_at "ls_Fl"))
  | ((with_reducible refine' rd_lenN ?k1 ?_); (case k1 => walk_at "ls_Fl"))
  | ((with_reducible refine' rd_lenS ?k1 ?_); (case k1 => walk_at "om_Fl"))
  | ((with_reducible refine' rd_ixN ?k1 ?k2 ?k3 ?_); (case k1 => walk_at "ls_Fl"); (case k2 => walk_at "om_Fl"); (case k3 => walk_at "om_Fl"))
  | ((with_reducible refine' rd_ixC ?k1 ?k2 ?k3 ?_); (case k1 => walk_at "om_Fl"); (case k2 => walk_at "om_Fl"); (case k3 => walk_at "om_Fl"))
  | ((with_reducible refine' rd_gtup ?k1 ?k2 ?_); (case k1 => exact SqT.of (by assumption)); (case k2 => rfl))
  | ((with_reducible refine' rd_new ?k1 ?_); (case k1 => walk_at "zl_Fl"))
  | with_reducible refine rd_ref1 ?_
  | with_reducible refine rd_nF rfl ?_ | with_reducible refine rd_dT rfl ?_ | with_reducible refine rd_cT rfl ?_ | with_reducible refine rd_cF rfl ?_
  | ((with_reducible refine' rd_dT ?k1 ?_); (case k1 => omega)) | ((with_reducible refine' rd_dF ?k1 ?_); (case k1 => omega)) | ((with_reducible refine' rd_nT ?k1 ?_); (case k1 => omega)) | ((with_reducible refine' rd_nF ?k1 ?_); (case k1 => omega)))
local macro_rules | `(tactic| walk_at "rdS_Fl") => `(tactic| repeat ((fail_if_success with_reducible show tIfS _ _ _ _ _ _); walk_at "rd1_Fl"))
local macro_rules | `(tactic| walk_at "kl_Fl") => `(tactic| first | exact Kl.refl | assumption | ((with_reducible refine' Kl.trans ?kx ?ky); (case ky => assumption); (case kx => walk_at "kl_Fl")) | ((with_reducible refine' Kl.trans ?kx (Kl.kp ?ky)); (case ky => assumption); (case kx => walk_at "kl_Fl")) | ((with_reducible refine' Kl.trans ?kx (Kx.kl ?ky)); (case ky => assumption); (case kx => walk_at "kl_Fl")) | ((with_reducible refine' Kl.trans ?kx (Kl.same ?ky)); (case ky => assumption); (case kx => walk_at "kl_Fl")))
local macro_rules | `(tactic| walk_at "tx_Fl") => `(tactic| first | assumption | ((with_reducible refine' TX.kl ?tx1 ?tx2); (case tx1 => assumption); (case tx2 => walk_at "kl_Fl")))
local macro_rules | `(tactic| walk_at "ts_Fl") => `(tactic| first | assumption | ((with_reducible refine' TS'.kl ?tx1 ?tx2); (case tx1 => assumption); (case tx2 => walk_at "kl_Fl")) | ((with_reducible refine' ts_nil ?tx1); (case tx1 => assumption)))
local macro_rules | `(tactic| walk_at "sx_Fl") => `(tactic| first | assumption | ((with_reducible refine' SX.kl ?tx1 ?tx2); (case tx1 => assumption); (case tx2 => walk_at "kl_Fl")) | ((with_reducible refine' TS'.sx ?tx1); (case tx1 => walk_at "ts_Fl")))
local macro_rules | `(tactic| walk_at "row_Fl") => `(tactic| first | assumption | ((with_reducible refine' RowAt.mono ?tx1 ?tx2); (case tx1 => walk_at "row_Fl"); (case tx2 => walk_at "sm_Fl")) | ((with_reducible refine' Kx.row ?tx2 ?tx1); (case tx2 => assumption); (case tx1 => walk_at "row_Fl")))
local macro_rules | `(tactic| walk_at "ls_Fl") => `(tactic| first | assumption | ((with_reducible refine' kl_natV ?tx1 ?tx2); (case tx1 => assumption); (case tx2 => walk_at "kl_Fl")) | ((with_reducible refine' kl_sgV ?tx1 ?tx2); (case tx1 => assumption); (case tx2 => walk_at "kl_Fl")) | ((refine' Same.lk ?tx1 ?tx2); (case tx1 => assumption); (case tx2 => walk_at "sm_Fl")))
local macro_rules | `(tactic| walk_at "tb_Fl") => `(tactic| first | assumption | ((with_reducible refine' Kl.tabs ?tx2 ?tx1); (case tx1 => assumption); (case tx2 => walk_at "kl_Fl")))
local macro_rules | `(tactic| walk_at "rd1_Fl") => `(tactic| first | with_reducible refine rd_p9 ?_ | ((with_reducible refine' rd_stepsQ ?k1 ?k2 ?k3 ?k4 ?k5 ?_); (case k1 => walk_at "row_Fl"); (case k2 => omega); (case k3 => omega); (case k4 => omega); (case k5 => omega)))
local macro_rules | `(tactic| walk_at "rd1_learn45") => `(tactic| walk_at "rd1_Fl")
local macro_rules | `(tactic| walk_at "rd_learn45") => `(tactic| repeat walk_at "rd1_learn45")
local macro_rules | `(tactic| walk_at "rdS_learn45") => `(tactic| repeat ((fail_if_success with_reducible show tIfS _ _ _ _ _ _); walk_at "rd1_learn45"))
local macro_rules | `(tactic| walk_at "rd1_learn45") => `(tactic| first
  | with_reducible refine rd_par ?_ | with_reducible refine rd_par3 ?_ | with_reducible refine rd_two ?_ | with_reducible refine rd_lc ?_ | with_reducible refine rd_iRng1 ?_ | with_reducible refine rd_for ?_ | with_reducible refine rd_iList ?_ | with_reducible refine rd_if ?_)
section
variable {P : Program} {w : World} {K : PySem.W.Frag} {mg : Str → Option Value} {base : Heap} {CText CPart CEditor CKeyReader CTextError CInvalidStep CInvalidOperation CDecodeError CNotationError CTooLong CInvalidPlace CInvalidLetter CContradiction CInvalidCount c_x_law_learned p_x_law_learned c_law p_law : Addr}
theorem ok_x_law_learned (T : Txt K mg CText CPart CEditor CKeyReader CTextError CInvalidStep CInvalidOperation CDecodeError CNotationError CTooLong CInvalidPlace CInvalidLetter CContradiction CInvalidCount c_x_law_learned p_x_law_learned c_law p_law) (LB : Lms K mg base c_x_law_learned p_x_law_learned c_law p_law) : GOk P w K mg base CX0 73 "_law_learned" (sp_x_law_learned K CText CPart CKeyReader (TL p_x_law_learned p_law)) := by
  refine T.d_x_law_learned.ok sc_x_law_learned (fun vs H Q E h => ?len) (fun f A outer s H vs Q E hr h => ?_)
  case len => obtain ⟨r, lk, x, h', d, ss, most, rfl, _⟩ := h; rfl
  · obtain ⟨r, lk, x, hl, d, ss, most, rfl, row, tab, kl, nk, R, ok, few, h1, h2, hm, k⟩ := h
    refine ⟨_, (pss_cons (ps_par3 (i := 5) (j := 6) (l := 7) rfl sc_x_law_learned.nd rfl rfl rfl (by decide) (by decide) (by decide) rfl rfl rfl (pa_cons (pe_lc (own := [("_law_key", 8)]) rfl sc_x_law_learned.nd (pi_range1 rfl T.n_range (pa_cons (pe_callB (lenK (K := K) rfl) rfl T.n_len (by decide +kernel) (pa_cons (pv 1) pa_nil)) pa_nil)) (blkOk_by (own := [("_law_key", 8)]) (N := N_x_law_learned) (sc := (defScope s_x_law_learned)) (by first | decide +kernel | rfl)) (fun _ _ _ _ _ => (pg_name (i := 8) sc_x_law_learned.nd rfl (Or.inl rfl))) (fun _ _ _ _ _ => pts_nil) (fun _ _ _ _ _ => (pe_lst (pa_cons (pv 8) pa_nil)))) (pa_cons pe_dnewK (pa_cons (pe_lst pa_nil) pa_nil))) rfl)
    (pss_cons (ps_for PassesOwn.never rfl (pi_range1 rfl T.n_range (pa_cons (pe_g (ok_x_law_next (K := K) T) (hr.mono (by decide)) pass0 (pa_cons (pv 0) (pa_cons (pe_op (addK (K := K) rfl) (pv 4) pe_int) pa_nil))) pa_nil)) (pg_name (i := 9) sc_x_law_learned.nd rfl (Or.inl rfl)) (pss_cons (ps_asg (pe_g (ok_x_law_row (K := K) T) (hr.mono (by decide)) pass0 (pa_cons (pv 0) (pa_cons (pv 1) (pa_cons (pv 2) pa_nil)))) (pg_tupK (K := K) (n := 3) rfl rfl (pgs_cons (pg_name (i := 10) sc_x_law_learned.nd rfl (Or.inr rfl)) (pgs_cons (pg_name (i := 11) sc_x_law_learned.nd rfl (Or.inr rfl)) (pgs_cons (pg_name (i := 12) sc_x_law_learned.nd rfl (Or.inr rfl)) pgs_nil)))))
    (pss_cons (ps_if (pt_cmpR (eqK (K := K) rfl hr.units) (pv 10) pe_str (nomark _)) (pss_cons (ps_set (i := 13) sc_x_law_learned.nd rfl (Or.inl rfl) (pe_g (ok_x_law_heard (K := K) T) (hr.mono (by decide)) pass0 (pa_cons (pv 5) (pa_cons (pv 6) (pa_cons (pe_ix (ixK (K := K) rfl) (pv 2) (pv 11) (fun _ _ => rfl)) (pa_cons (pe_ix (ixK (K := K) rfl) (pv 2) (pv 12) (fun _ _ => rfl)) pa_nil))))))
    (pss_one (ps_asg (pe_ifExp (pt_cmpR oNotN (pv 13) pe_non (nomark _)) (pv 13) (pe_tup (pa_cons (pv 5) (pa_cons pe_non pa_nil)))) (pg_tupK (K := K) (n := 2) rfl rfl (pgs_cons (pg_name (i := 14) sc_x_law_learned.nd rfl (Or.inl rfl)) (pgs_cons (pg_name (i := 15) sc_x_law_learned.nd rfl (Or.inl rfl)) pgs_nil))))))
    (pss_cons (ps_setLc (i := 16) (own := [("_law_j", 17)]) rfl sc_x_law_learned.nd rfl rfl (sw_true rfl rfl rfl (by decide +kernel)) (pi_range1 rfl T.n_range (pa_cons (pe_callB (lenK (K := K) rfl) rfl T.n_len (by decide +kernel) (pa_cons (pv 12) pa_nil)) pa_nil)) (blkOk_by (own := [("_law_j", 17)]) (N := N_x_law_learned) (sc := (defScope s_x_law_learned)) (by first | decide +kernel | rfl)) (fun _ _ _ _ _ => (pg_name (i := 17) sc_x_law_learned.nd rfl (Or.inl rfl))) (fun _ _ _ _ _ => pts_nil) (fun _ _ _ _ _ => (pe_tup (pa_cons (pe_op (addK (K := K) rfl) (pv 11) (pv 17)) (pa_cons (pe_ix (ixK (K := K) rfl) (pv 12) (pv 17) (fun _ _ => rfl)) pa_nil)))))
    (pss_one (ps_par (i := 14) (j := 15) rfl sc_x_law_learned.nd rfl rfl (by decide) rfl rfl (pa_cons (pv 5) (pa_cons (pe_g (ok_x_law_seen (K := K) T) (hr.mono (by decide)) pass0 (pa_cons (pv 5) (pa_cons (pv 6) (pa_cons (pv 2) (pa_cons (pv 16) pa_nil))))) pa_nil)) rfl))))
    (pss_cons (ps_set (i := 18) sc_x_law_learned.nd rfl (Or.inl rfl) (pe_giv (k := 70) T.d_x_law_told sc_x_law_told (fun g cdg => gv_x_law_told T g cdg) (hr.mono (by decide)) (pe_lam (T := (TL p_x_law_learned p_law)) (k := 70) LB.tb_x_law_learned rfl (.head _) LB.hu_x_law_learned (lamC_by (N := N_x_law_learned) (sc := defScope s_x_law_learned) (by decide +kernel)) (fun A outer s H E f c' hr => (pe_g (okR_x_law_observe (K := K) T) (hr.mono (by decide)) (passX (takes_of rfl rfl rfl rfl)) (pa_cons (pv 3) (pa_cons (pv 10) (pa_cons (pv 11) (pa_cons (pv 12) pa_nil)))))))))
    (pss_cons (ps_if (pt_cmpR oIsN (pv 15) pe_non (nomark _)) (pss_cons (ps_if (pt_cmpR (neK (K := K) rfl hr.units) (pv 18) (pe_tup (pa_cons pe_str (pa_cons pe_str pa_nil))) (nomark _)) (pss_one (ps_ret pe_non))
    pss_nil)
    (pss_one ps_continue))
    pss_nil)
    (pss_cons (ps_par3 (i := 5) (j := 6) (l := 7) rfl sc_x_law_learned.nd rfl rfl rfl (by decide) (by decide) (by decide) rfl rfl rfl (pa_cons (pv 14) (pa_cons (pv 15) (pa_cons (pe_op (addK (K := K) rfl) (pv 7) (pe_lst (pa_cons (pe_tup (pa_cons (pv 10) (pa_cons (pv 11) (pa_cons (pv 12) pa_nil)))) pa_nil))) pa_nil))) rfl)
    (pss_one (ps_if (pt_cmpR (neK (K := K) rfl hr.units) (pv 18) (pe_ifExp (pt_cmpR (eqK (K := K) rfl hr.units) (pv 10) pe_str (nomark _)) (pe_g (ok_x_law_texts (K := K) T) (hr.mono (by decide)) pass0 (pa_cons (pv 5) (pa_cons (pv 6) pa_nil))) (pe_callB lenDK rfl T.n_len (by decide +kernel) (pa_cons (pv 6) pa_nil))) (nomark _)) (pss_one (ps_ret pe_non))
    pss_nil))))))))
    (pss_one (ps_ret (pe_tup (pa_cons (pv 5) (pa_cons (pv 6) (pa_cons (pv 7) pa_nil)))))))), ?_⟩
    refine rd_startE (show start N_x_law_learned [.ref r, .str (mkS (tyL ss)), .ref lk, .ref x, .int (most : Nat)] = [some (.ref r), some (.str (mkS (tyL ss))), some (.ref lk), some (.ref x), some (.int (most : Nat)), none, none, none, none, none, none, none, none, none, none, none, none, none, none] from rfl) ?_
    have n1 := T.ne_Text_KeyReader
    have n2 := T.ne_Part_KeyReader
    have hkl := ks_len ok
    have nk6 : (tyL ss).length ≤ 600 := by have := tyL_small ok; omega
    have n0 : 0 < (tyL ss).length := by
      have := kat_lt ok (p := 0) (by omega)
      omega
    walk_at "rd_learn45"
    refine ⟨_, rfl, by omega, by omega, fun D hD => lc_relD (n := (tyL ss).length) (it := fun i => .int (0 + (i : Nat))) (by rw [Int.toNat_natCast]; exact plain_rng) hD (by rw [sizeLine_eq]; omega) (fun _ => rfl) (fun i y H' => ∃ t, y = .ref t ∧ t ≠ D ∧ t ∉ [x, hl, d] ∧ H' t = some (.lst (natV [i]))) (fun i y H1 H2 B ⟨t, a, b, c, e⟩ => ⟨t, a, b, c, B _ _ b e⟩) (fun i H1 Q1 hi S1 nD q => ?_) fun H1 ys S1 eD hl' hr => ?_⟩
    · rw [show (0 : Int) + (i : Nat) = (i : Nat) by omega]
      walk_at "rd_learn45"
      intro t H2 S2 e2 n2'
      refine q _ _ S2 ⟨t, rfl, fun z => nD (z ▸ n2'), R.new _ (Same.back S1 n2'), e2⟩
    · have cl : ClsP (fun a => a ∉ [x, hl, d]) H1 D (clsF id (tyL ss).length) := by
        rw [cls_id]
        have : ∃ as : List Addr, ys = as.map V.ref := by
          refine ⟨ys.map fun y => match y with | .ref a => a | _ => 0, ?_⟩
          rw [List.map_map]
          refine List.ext_getElem? fun i => ?_
          rw [List.getElem?_map]
          by_cases hi : i < (tyL ss).length
          · obtain ⟨y, h1, a, rfl, _⟩ := hr i hi
            rw [h1]; rfl
          · rw [List.getElem?_eq_none (by omega)]; rfl
        obtain ⟨as, rfl⟩ := this
        rw [List.length_map] at hl'
        refine ⟨as, eD, by rw [List.length_map, List.length_range, hl'], fun i c hc => ?_⟩
        rw [List.getElem?_map] at hc
        obtain ⟨j, hj, rfl⟩ := Option.map_eq_some_iff.mp hc
        have hi : i < (tyL ss).length := by have := (List.getElem?_eq_some_iff.mp hj).1; rwa [List.length_range] at this
        rw [List.getElem?_range hi] at hj
        cases hj
        obtain ⟨y, h1, a, rfl, _, h2, h3⟩ := hr i hi
        rw [List.getElem?_map] at h1
        obtain ⟨a', h4, h5⟩ := Option.map_eq_some_iff.mp h1
        cases h5
        exact ⟨_, h4, h2, h3⟩
      walk_at "rd_learn45"
      refine fun dk ndk => ?_
      have S2 : Same H1 (upd H1 dk (.dK [])) := Same.new (Same.refl _) ndk
      have e2 : upd H1 dk (.dK []) dk = some (.dK (kvM [])) := upd_same
      revert S2 e2
      generalize upd H1 dk (.dK []) = H2
      intro S2 e2
      walk_at "rd_learn45"
      intro lo H3 S3 e3 n3
      have S13 := (S1.trans S2).trans S3
      have L3 : Lrn K CText CPart CKeyReader (TL p_x_law_learned p_law) H3 r lk x hl d D dk lo ss id [] [] [] [] [] :=
        ⟨row.kl (T := []) (.same S13) (row.at.mono S13), (Kl.same S13).tabs tab, R.same S13, S13 _ _ kl, nk, cl.mono (S2.trans S3), R.new _ hD, S3 _ _ e2, R.new _ (Same.back S1 ndk), KnO.nil, e3, ObsAt.nil⟩
      have X3 : TxK K CText CPart H H3 := TxK.refl.same S13
      clear row tab R kl nk cl S1 S2 S3 S13 e2 e3 eD hr hl' hD ndk n3
      refine ⟨_, _, _, rfl, ?_⟩
      walk_at "rd_learn45"
      refine rd_nextD L3.row.at (by omega) (by omega) fun N H4 hN k4 row4 => ?_
      have L4 := L3.kp k4 row4
      have X4 := X3.kp k4
      clear L3 X3 k4 row4
      walk_at "rd_learn45"
      refine ⟨_, rfl, by omega, by omega, for_range (n := N) (fun i σ H' => ∃ v9 v10 v11 v12 v13 v14 v15 v16 v18 kd lc dk lo f1 ls kn ob ms, σ = [some (.ref r), some (.str (mkS (tyL ss))), some (.ref lk), some (.ref x), some (.int (most : Nat)), some (.ref lc), some (.ref dk), some (.ref lo), none, v9, v10, v11, v12, v13, v14, v15, v16, none, v18] ∧
          Lrn K CText CPart CKeyReader (TL p_x_law_learned p_law) H' r lk x hl kd lc dk lo ss f1 ls kn ob ob ms ∧ TxK K CText CPart H H' ∧ (∀ o ∈ ob, ObsX ss o) ∧ ob.length ≤ i)
        ⟨_, _, _, _, _, _, _, _, _, d, D, dk, lo, id, [], [], [], [], rfl, L4, X4, fun o ho => (by cases ho), Nat.le_refl _⟩ ?_ ?_⟩
      · clear L4 X4
        rintro i σ H5 hi ⟨v9, v10, v11, v12, v13, v14, v15, v16, v18, kd, lc, dk, lo, f1, ls, kn, ob, ms, rfl, L, X, oks, lob⟩
        have iN : i < 10 := by omega
        walk_at "rd_learn45"
        refine rd_row45 L.row.at L.kl ok few h1 h2 fun p o H6 k6 row6 hq hx => ?_
        have L6 := L.kp k6 row6
        have X6 := X.kp k6
        clear L X k6 row6
        rw [obsV_eq] at hq
        refine rd_gtup hq rfl ?_
        walk_at "rdS_learn45"
        have F1 := L6.rd.lst
        refine rd_ifSJ (fun σ' Hc => ∃ v13 due lt v16, σ' = [some (.ref r), some (.str (mkS (tyL ss))), some (.ref lk), some (.ref x), some (.int (most : Nat)), some (.ref lc), some (.ref dk), some (.ref lo), none, some (.int (0 + (i : Nat))), some (.str (obsN o)), some (.int (obsP o : Nat)), some (obsX o), v13, some due, some lt, v16, none, v18] ∧
            Lrn K CText CPart CKeyReader (TL p_x_law_learned p_law) Hc r lk x hl kd lc dk lo ss f1 ls kn ob ob ms ∧ TxK K CText CPart H Hc ∧
            ((okO f1 ss ls o ∧ ∃ l' d' kn', due = .ref l' ∧ lt = .ref d' ∧ ClsP (fun a => a ∉ [x, hl, kd]) Hc l' (clsF (fO f1 ss o) (tyL ss).length) ∧ l' ∉ [x, hl, kd] ∧ Hc d' = some (.dK (kvM kn')) ∧ d' ∉ [x, hl, kd] ∧ KnO (fO f1 ss o) (lO f1 ss ls o) (tyL ss).length kn') ∨ (¬ okO f1 ss ls o ∧ lt = .non))) ?_ fun nx' hnx => ?_
        · rintro σ' H7 ⟨v13, due, lt, v16, rfl, L7, X7, hd⟩
          clear L6 X6 hq
          walk_at "rd_learn45"
          refine rd_giv L7.tab fun H8 k8 => ?_
          have L8 := L7.kx k8
          have X8 := X7.kl k8.kl
          walk_at "rd_learn45"
          refine ⟨x, hl, kd, ss, f1, ls, ob, o, by rw [obsV_eq], L8.rd, hx, by omega, fun hok H9 B9 R9 => ?_, fun hno H9 kd' B9 nk9 R9 => ?_⟩
          · rcases hd with ⟨_, l', d', kn', rfl, rfl, cl', nl', ed', nd', ko'⟩ | ⟨z, _⟩
            case inr => exact absurd hok z
            have X9 := X8.kh n1 n2 (L8.rd.kh n0 B9)
            have L9 := L8.step n0 B9 (.inl rfl) R9 (cl'.kl k8.kl) nl' (k8.keep _ _ (fun _ z => nomatch z) ed') nd' ko'
            have F2 := F1.fO ok hx
            clear L7 X7 L8 X8 k8 B9 R9 cl' nl' ed' nd' ko'
            walk_at "rd_learn45"
            intro q10 H10 S10 e10 _
            have L10 := L9.same S10
            have X10 := X9.same S10
            clear L9 X9 S10
            rw [← obsV_eq] at e10
            walk_at "rd_learn45"
            intro q11 H11 S11 e11 _
            have L11 := L10.same S11
            have X11 := X10.same S11
            have e10 := S11 _ _ e10
            have lms := L11.ob.1
            walk_at "rd_learn45"
            refine rd_addSame L11.lo e11 (by rw [sizeLine_eq, lms]; show ob.length + 1 ≤ _; omega) fun q12 H12 S12 _ e12 => ?_
            have L12 := L11.same S12
            have X12 := X11.same S12
            have e10 := S12 _ _ e10
            have L12 : Lrn K CText CPart CKeyReader (TL p_x_law_learned p_law) H12 r lk x hl kd l' d' q12 ss (fO f1 ss o) (lO f1 ss ls o) kn' (ob ++ [o]) (ob ++ [o]) (ms ++ [.ref q10]) := { L12 with lo := e12, ob := L12.ob.snoc (SqT.of e10) }
            clear L10 X10 L11 X11 S11 S12 e10 e11 e12
            walk_at "rd_learn45"
            refine ⟨_, _, _, rfl, ?_⟩
            have ob1 : ∀ o' ∈ ob ++ [o], ObsX ss o' := fun o' ho => by
              rcases List.mem_append.mp ho with ho | ho
              · exact oks _ ho
              · rw [List.mem_singleton.mp ho]; exact hx
            have ob2 : (ob ++ [o]).length ≤ i + 1 := by rw [List.length_append, List.length_singleton]; omega
            rcases obs_word (f := f1) (ls := ls) hx with ⟨wd, hne, _, _, _, _, _, _, _, _, hres⟩ | ⟨p1, p2, rfl⟩
            · walk_at "rd_learn45"
              refine rd_lenKn L12.kd ?_
              rw [hres, L12.ko.len]
              walk_at "rd_learn45"
              exact ⟨_, _, _, _, _, _, _, _, _, kd, l', d', q12, _, _, kn', _, _, rfl, L12, X12, ob1, ob2⟩
            · simp only [obsN, obsP, obsX]
              walk_at "rd_learn45"
              refine rd_texts L12.cl.at L12.kd L12.ko F2 (by omega) fun H13 S13 => ?_
              have L13 := L12.same S13
              have X13 := X12.same S13
              walk_at "rd_learn45"
              exact ⟨_, _, _, _, _, _, _, _, _, kd, l', d', q12, _, _, kn', _, _, rfl, L13, X13, ob1, ob2⟩
          · rcases hd with ⟨z, _⟩ | ⟨_, rfl⟩
            case inl => exact absurd z hno
            have X9 := X8.kh n1 n2 (L8.rd.kh n0 B9)
            have L9 := L8.step n0 B9 nk9 R9 L8.cl L8.nc L8.kd L8.nd L8.ko
            clear L7 X7 L8 X8 k8 B9 R9 nk9
            refine to_word 7 (by decide) T.z_Contradiction rfl fun p10 H10 S10 e10 => ?_
            have L10 := L9.same S10
            have X10 := X9.same S10
            clear L9 X9 S10
            walk_at "rd_learn45"
            intro q11 H11 S11 e11 _
            refine rd_neE2 (S11 _ _ e10) e11 (by decide +kernel) (by decide +kernel) ?_
            walk_at "rd_learn45"
            exact ⟨_, _, _, _, _, _, _, _, _, kd', lc, dk, lo, f1, ls, kn, ob, ms, rfl, L10.same S11, X10.same S11, oks, by omega⟩
        · rcases obs_word (f := f1) (ls := ls) hx with ⟨wd, hne, ex, hw1, hw2, hw3, hw4, hok, hf, hls, _⟩ | ⟨p1, p2, rfl⟩
          · rw [ex]
            walk_at "rd_learn45"
            refine ⟨_, rfl, by omega, by omega, fun D hD => lc_rel (n := wd.length) (it := fun j => .int (0 + (j : Nat))) (by rw [Int.toNat_natCast]; exact plain_rng) hD (by rw [sizeLine_eq]; omega) (fun _ => rfl) (fun j y H => ∃ t, y = V.ref t ∧ H t = some (.tup [.int (obsP o + j : Nat), .str ⟨#[wd[j]?.getD 0]⟩])) (fun j y H H' l _ hj bt ⟨t, e1, e2⟩ => ⟨t, e1, bt _ _ (fun z => by subst z; rw [hj] at e2; cases e2) e2⟩) (fun j H7 Q7 hj S7 q => ?_) fun H7 ys S7 eD hl7 hr7 => ?_⟩
            · rw [show (0 : Int) + (j : Nat) = (j : Nat) by omega]
              walk_at "rd_learn45"
              intro t H8 S8 e8 _
              refine q _ _ S8 ⟨t, rfl, ?_⟩
              rw [Int.toNat_natCast] at e8
              rw [e8, Int.natCast_add]
            · have L7 := L6.same S7
              have X7 := X6.same S7
              have c7 : ChAt K H7 D (plW (obsP o) wd) (sz ss) := chAt_of eD hl7 hw3 hw4 hr7
              clear L6 X6 S7 eD hl7 hr7 hD
              walk_at "rd_learn45"
              refine rd_seen45 (p := obsP o) (w := wd) L7.cl.at L7.kd L7.kl c7 L7.ko F1 ok few hw3 (by omega) hw4 (fun hk d' H8 kn' S8 nd' ed' ko' => ?_) fun hk H8 S8 => ?_
              · have nn := L7.rd.new d' nd'
                have L8 := L7.same S8
                walk_at "rd_learn45"
                rw [← ex]
                exact hnx _ _ ⟨_, _, _, _, rfl, L8, X7.same S8, .inl ⟨hok.mpr hk, lc, d', kn', rfl, rfl, by rw [hf]; exact L8.cl, L8.nc, ed', nn, by rw [hf, hls]; exact ko'⟩⟩
              · have L8 := L7.same S8
                walk_at "rd_learn45"
                rw [← ex]
                exact hnx _ _ ⟨_, _, _, _, rfl, L8, X7.same S8, .inr ⟨fun z => hk (hok.mp z), rfl⟩⟩
          · obtain ⟨hp1, hp2⟩ := hx
            simp only [obsN, obsP, obsX] at hnx ⊢
            have kl6 := L6.kl
            walk_at "rd_learn45"
            rw [show ((ks ss)[((p1 : Nat) : Int).toNat]?.getD 0) = kat ss p1 from by rw [Int.toNat_natCast]; rfl, show ((ks ss)[((p2 : Nat) : Int).toNat]?.getD 0) = kat ss p2 from by rw [Int.toNat_natCast]; rfl]
            have lok : LsOk (tyL ss).length ls := by obtain ⟨i', r'⟩ := L6.rd; exact r'.lok
            refine rd_heard45 L6.cl L6.rd.new L6.kd L6.ko lok F1 (kat_lt ok hp1) (kat_lt ok hp2) (by omega) (fun hk t l' d' kn' H7 S7 nl' nd' et cl' ed' ko' => ?_) fun hk H7 S7 => ?_
            · have nn := L6.rd.new d' nd'
              have nn2 := L6.rd.new l' nl'
              have L7 := L6.same S7
              walk_at "rd_learn45"
              exact hnx _ _ ⟨_, _, _, _, rfl, L7, X6.same S7, .inl ⟨hk, l', d', kn', rfl, rfl, cl', nn2, ed', nn, ko'⟩⟩
            · have L7 := L6.same S7
              walk_at "rd_learn45"
              intro q8 H8 S8 e8 _
              refine rd_gtup (SqT.of e8) rfl ?_
              walk_at "rd_learn45"
              exact hnx _ _ ⟨_, _, _, _, rfl, L7.same S8, (X6.same S7).same S8, .inr ⟨hk, rfl⟩⟩
      · rintro σ H5 ⟨v9, v10, v11, v12, v13, v14, v15, v16, v18, kd, lc, dk, lo, f1, ls, kn, ob, ms, rfl, L, X, oks, lob⟩
        walk_at "rd_learn45"
        intro p6 H6 S6 e6 _
        exact k p6 H6 kd lc dk lo f1 ls kn ob ms e6 (L.same S6) (X.same S6) oks (by omega)
end
section
variable {P : Program} {w : World} {K : PySem.W.Frag} {mg : Str → Option Value} {base : Heap} {CText CPart CEditor CKeyReader CTextError CInvalidStep CInvalidOperation CDecodeError CNotationError CTooLong CInvalidPlace CInvalidLetter CContradiction CInvalidCount c_x_law_learned p_x_law_learned c_law p_law : Addr}
theorem ok_x_law_likeN (T : Txt K mg CText CPart CEditor CKeyReader CTextError CInvalidStep CInvalidOperation CDecodeError CNotationError CTooLong CInvalidPlace CInvalidLetter CContradiction CInvalidCount c_x_law_learned p_x_law_learned c_law p_law) : ∀ n, GOk P w K mg base CX0 (n + 1) "_law_like" (sp_x_law_likeE K n)
  | 0 => by
    refine T.d_x_law_like.ok sc_x_law_like (fun vs H Q E h => ?len) (fun f cdv A outer s H vs Q E hr h => ?_)
    case len => obtain ⟨v, w, rfl, _⟩ := h; rfl
    · obtain ⟨v, w, _, h, _⟩ := h
      exact h.elim
  | n + 1 => by
    have ok_x_law_like := fun (_ : Txt K mg CText CPart CEditor CKeyReader CTextError CInvalidStep CInvalidOperation CDecodeError CNotationError CTooLong CInvalidPlace CInvalidLetter CContradiction CInvalidCount c_x_law_learned p_x_law_learned c_law p_law) => ok_x_law_likeN T n
    refine T.d_x_law_like.ok sc_x_law_like (fun vs H Q E h => ?len) (fun f cdv A outer s H vs Q E hr h => ?_)
    case len => obtain ⟨v, w, rfl, _⟩ := h; rfl
    · obtain ⟨v, w, rfl, h, k⟩ := h
      refine ⟨_, (pss_cons (ps_if (PW.pt (pw_or (pt_val (pe_callB (isiK (K := K) rfl) rfl T.n_isinstance (by decide +kernel) (pa_cons (pv 1) (pa_cons (pe_bltn (v := .ty "tuple") rfl T.n_tuple (by decide +kernel) rfl) pa_nil)))) (pw_or1 (pt_val (pe_callB (isiK (K := K) rfl) rfl T.n_isinstance (by decide +kernel) (pa_cons (pv 1) (pa_cons (pe_bltn (v := .ty "list") rfl T.n_list (by decide +kernel) rfl) pa_nil))))))) (pss_cons (ps_if (pt_cmpR (neK (K := K) rfl hr.units) (pe_callB (isiK (K := K) rfl) rfl T.n_isinstance (by decide +kernel) (pa_cons (pv 0) (pa_cons (pe_bltn (v := .ty "tuple") rfl T.n_tuple (by decide +kernel) rfl) pa_nil))) (pe_callB (isiK (K := K) rfl) rfl T.n_isinstance (by decide +kernel) (pa_cons (pv 1) (pa_cons (pe_bltn (v := .ty "tuple") rfl T.n_tuple (by decide +kernel) rfl) pa_nil))) (nomark _)) (pss_one (ps_ret pe_bl))
    pss_nil)
    (pss_cons (ps_if (PW.pt (pw_or (pt_cmpR (neK (K := K) rfl hr.units) (pe_callB (isiK (K := K) rfl) rfl T.n_isinstance (by decide +kernel) (pa_cons (pv 0) (pa_cons (pe_bltn (v := .ty "list") rfl T.n_list (by decide +kernel) rfl) pa_nil))) (pe_callB (isiK (K := K) rfl) rfl T.n_isinstance (by decide +kernel) (pa_cons (pv 1) (pa_cons (pe_bltn (v := .ty "list") rfl T.n_list (by decide +kernel) rfl) pa_nil))) (nomark _)) (pw_or1 (pt_cmpR (neK (K := K) rfl hr.units) (pe_callB (lenK (K := K) rfl) rfl T.n_len (by decide +kernel) (pa_cons (pv 0) pa_nil)) (pe_callB (lenK (K := K) rfl) rfl T.n_len (by decide +kernel) (pa_cons (pv 1) pa_nil)) (nomark _))))) (pss_one (ps_ret pe_bl))
    pss_nil)
    (pss_one (ps_ret (pe_cmpR (eqK (K := K) rfl hr.units) (pe_lc (own := [("_law_k", 2)]) rfl sc_x_law_like.nd (pi_range1 rfl T.n_range (pa_cons (pe_callB (lenK (K := K) rfl) rfl T.n_len (by decide +kernel) (pa_cons (pv 1) pa_nil)) pa_nil)) (blkOk_by (own := [("_law_k", 2)]) (N := N_x_law_like) (sc := (defScope s_x_law_like)) (by first | decide +kernel | rfl)) (fun _ _ _ _ _ => (pg_name (i := 2) sc_x_law_like.nd rfl (Or.inl rfl))) (fun _ _ _ _ _ => (pts_one (pt_not (pt_val (pe_g (ok_x_law_like T) (hr.mono (by omega)) pass0 (pa_cons (pe_ix (ixK (K := K) rfl) (pv 0) (pv 2) (fun _ _ => rfl)) (pa_cons (pe_ix (ixK (K := K) rfl) (pv 1) (pv 2) (fun _ _ => rfl)) pa_nil))))))) (fun _ _ _ _ _ => (pv 2))) (pe_lst pa_nil) (nomark _))))))
    pss_nil)
    (pss_cons (ps_if (pt_cmpR (neK (K := K) rfl hr.units) (pe_callB (isiK (K := K) rfl) rfl T.n_isinstance (by decide +kernel) (pa_cons (pv 0) (pa_cons (pe_bltn (v := .ty "bool") rfl T.n_bool (by decide +kernel) rfl) pa_nil))) (pe_callB (isiK (K := K) rfl) rfl T.n_isinstance (by decide +kernel) (pa_cons (pv 1) (pa_cons (pe_bltn (v := .ty "bool") rfl T.n_bool (by decide +kernel) rfl) pa_nil))) (nomark _)) (pss_one (ps_ret pe_bl))
    pss_nil)
    (pss_cons (ps_if (PW.pt (pw_or (pt_cmpR (neK (K := K) rfl hr.units) (pe_callB (isiK (K := K) rfl) rfl T.n_isinstance (by decide +kernel) (pa_cons (pv 0) (pa_cons (pe_bltn (v := .ty "int") rfl T.n_int (by decide +kernel) rfl) pa_nil))) (pe_callB (isiK (K := K) rfl) rfl T.n_isinstance (by decide +kernel) (pa_cons (pv 1) (pa_cons (pe_bltn (v := .ty "int") rfl T.n_int (by decide +kernel) rfl) pa_nil))) (nomark _)) (pw_or1 (pt_cmpR (neK (K := K) rfl hr.units) (pe_callB (isiK (K := K) rfl) rfl T.n_isinstance (by decide +kernel) (pa_cons (pv 0) (pa_cons (pe_bltn (v := .ty "str") rfl T.n_str (by decide +kernel) rfl) pa_nil))) (pe_callB (isiK (K := K) rfl) rfl T.n_isinstance (by decide +kernel) (pa_cons (pv 1) (pa_cons (pe_bltn (v := .ty "str") rfl T.n_str (by decide +kernel) rfl) pa_nil))) (nomark _))))) (pss_one (ps_ret pe_bl))
    pss_nil)
    (pss_one (ps_ret (pe_cmpR ((oEqAD (K := K) hr.units rfl)) (pv 0) (pv 1) (nomark _))))))), ?_⟩
      refine rd_startE (show start N_x_law_like [v, w] = [some (v), some (w), none] from rfl) ?_
      rcases h with ⟨i, rfl, rfl⟩ | ⟨x, rfl, rfl, hx⟩ | ⟨rfl, rfl⟩ | ⟨a, b, xs, ys, rfl, rfl, ⟨q1, q2⟩ | ⟨q1, q2⟩, hl, hz, hr'⟩ | ⟨a, b, kvs, kvs', rfl, rfl, q1, q2, fl⟩
      · walk_at "rd_Fa"
        refine rd_eqADl ?_
        walk_at "rd_Fa"
        rw [decide_eq_true rfl]
        exact k _ (Same.refl _)
      · walk_at "rd_Fa"
        refine rd_eqADl ?_
        walk_at "rd_Fa"
        rw [decide_eq_true rfl]
        exact k _ (Same.refl _)
      · walk_at "rd_Fa"
        refine rd_eqADl ?_
        refine rd_eq_scal rfl ?_
        rw [show decide (V.non = V.non) = true from decide_eq_true rfl]
        exact k _ (Same.refl _)
      · walk_at "rd_Fa"
        refine rd_isi_tup_tuple (q2) ?_
        walk_at "rd_Fa"
        refine rd_isi_tup_tuple (q1) ?_
        walk_at "rd_Fa"
        refine rd_isi_tup_tuple (q2) ?_
        walk_at "rd_Fa"
        refine rd_isi_tup_list (q1) ?_
        walk_at "rd_Fa"
        refine rd_isi_tup_list (q2) ?_
        walk_at "rd_Fa"
        refine rd_len_tup (q1) ?_
        walk_at "rd_Fa"
        refine rd_len_tup (q2) ?_
        walk_at "rd_Fa"
        refine rd_len_tup (q2) ?_
        walk_at "rd_Fa"
        have line : ys.length < 2 ^ 62 := by rw [sizeLine_eq] at hz; omega
        refine ⟨_, rfl, by omega, by omega, fun D hD => lc_filt (n := ys.length) (f := fun _ => .non) (p := fun _ => false) (by rw [Int.toNat_natCast]; exact plain_rng) hD (by omega) (fun _ => rfl) (fun i H1 R1 hi S q => ?_) (fun i H1 Q1 hi z => by cases z) fun H1 S eD => ?_⟩
        · have ex : xs[i]? = some (xs[i]'(by omega)) := List.getElem?_eq_getElem _
          have ey : ys[i]? = some ys[i] := List.getElem?_eq_getElem hi
          rw [show (0 : Int) + (i : Nat) = (i : Nat) by omega]
          walk_at "rd_Fa"
          refine rd_ixTn (Same.tup S q1) ex ?_
          walk_at "rd_Fa"
          refine rd_ixTn (Same.tup S q2) ey ?_
          walk_at "rd_Fa"
          exact ⟨_, _, rfl, (hr' i _ _ ex ey).mono S, fun H' S4 => by
            walk_at "rd_Fa"
            exact q _ S4⟩
        · walk_at "rd_Fa"
          intro p3 H4 S4 e4 _
          have e0 : ((List.range ys.length).filter fun _ => false) = [] := by simp
          rw [e0, List.map_nil] at eD
          exact rd_eq_same (n := 1) (d := .list []) (.lst (SqL.of (S4 _ _ eD)) .nil) (.lst (SqL.of e4) .nil) (.lst fun d hd => by cases hd) (by decide) (k _ (S.trans S4))
      · walk_at "rd_Fa"
        refine rd_isi_lst_tuple (q2) ?_
        walk_at "rd_Fa"
        refine rd_isi_lst_list q2 ?_
        walk_at "rd_Fa"
        refine rd_isi_lst_tuple (q1) ?_
        walk_at "rd_Fa"
        refine rd_isi_lst_tuple (q2) ?_
        walk_at "rd_Fa"
        refine rd_isi_lst_list (q1) ?_
        walk_at "rd_Fa"
        refine rd_isi_lst_list (q2) ?_
        walk_at "rd_Fa"
        refine rd_len_lst (q1) ?_
        walk_at "rd_Fa"
        refine rd_len_lst (q2) ?_
        walk_at "rd_Fa"
        refine rd_len_lst (q2) ?_
        walk_at "rd_Fa"
        have line : ys.length < 2 ^ 62 := by rw [sizeLine_eq] at hz; omega
        refine ⟨_, rfl, by omega, by omega, fun D hD => lc_filt (n := ys.length) (f := fun _ => .non) (p := fun _ => false) (by rw [Int.toNat_natCast]; exact plain_rng) hD (by omega) (fun _ => rfl) (fun i H1 R1 hi S q => ?_) (fun i H1 Q1 hi z => by cases z) fun H1 S eD => ?_⟩
        · have ex : xs[i]? = some (xs[i]'(by omega)) := List.getElem?_eq_getElem _
          have ey : ys[i]? = some ys[i] := List.getElem?_eq_getElem hi
          rw [show (0 : Int) + (i : Nat) = (i : Nat) by omega]
          walk_at "rd_Fa"
          refine rd_ixLn (S.seq q1) ex ?_
          walk_at "rd_Fa"
          refine rd_ixLn (S.seq q2) ey ?_
          walk_at "rd_Fa"
          exact ⟨_, _, rfl, (hr' i _ _ ex ey).mono S, fun H' S4 => by
            walk_at "rd_Fa"
            exact q _ S4⟩
        · walk_at "rd_Fa"
          intro p3 H4 S4 e4 _
          have e0 : ((List.range ys.length).filter fun _ => false) = [] := by simp
          rw [e0, List.map_nil] at eD
          exact rd_eq_same (n := 1) (d := .list []) (.lst (SqL.of (S4 _ _ eD)) .nil) (.lst (SqL.of e4) .nil) (.lst fun d hd => by cases hd) (by decide) (k _ (S.trans S4))
      · walk_at "rd_Fa"
        refine rd_isi_dK_tuple q2 ?_
        walk_at "rd_Fa"
        refine rd_isi_dK_list q2 ?_
        walk_at "rd_Fa"
        refine rd_isi_dK_bool q1 ?_
        walk_at "rd_Fa"
        refine rd_isi_dK_bool q2 ?_
        walk_at "rd_Fa"
        refine rd_isi_dK_int q1 ?_
        walk_at "rd_Fa"
        refine rd_isi_dK_int q2 ?_
        walk_at "rd_Fa"
        refine rd_isi_dK_str q1 ?_
        walk_at "rd_Fa"
        refine rd_isi_dK_str q2 ?_
        walk_at "rd_Fa"
        exact rd_eqADe q1 q2 fl (k _ (Same.refl _))
theorem ok_x_law_like (T : Txt K mg CText CPart CEditor CKeyReader CTextError CInvalidStep CInvalidOperation CDecodeError CNotationError CTooLong CInvalidPlace CInvalidLetter CContradiction CInvalidCount c_x_law_learned p_x_law_learned c_law p_law) : GOk P w K mg base CX0 6 "_law_like" (sp_x_law_likeE K 5) := ok_x_law_likeN T 5
end
local macro_rules | `(tactic| walk_at "rd1_law45") => `(tactic| walk_at "rd1_Fl")
local macro_rules | `(tactic| walk_at "rd_law45") => `(tactic| repeat walk_at "rd1_law45")
local macro_rules | `(tactic| walk_at "rdS_law45") => `(tactic| repeat ((fail_if_success with_reducible show tIfS _ _ _ _ _ _); walk_at "rd1_law45"))
local macro_rules | `(tactic| walk_at "rd1_law45") => `(tactic| first
  | with_reducible refine rd_par ?_ | with_reducible refine rd_par3 ?_ | with_reducible refine rd_two ?_ | with_reducible refine rd_iRng1 ?_ | with_reducible refine rd_for ?_ | with_reducible refine rd_iList ?_ | with_reducible refine rd_if ?_)
section
variable {P : Program} {w : World} {K : PySem.W.Frag} {mg : Str → Option Value} {base : Heap} {CText CPart CEditor CKeyReader CTextError CInvalidStep CInvalidOperation CDecodeError CNotationError CTooLong CInvalidPlace CInvalidLetter CContradiction CInvalidCount c_x_law_learned p_x_law_learned c_law p_law : Addr}
theorem ok_law (T : Txt K mg CText CPart CEditor CKeyReader CTextError CInvalidStep CInvalidOperation CDecodeError CNotationError CTooLong CInvalidPlace CInvalidLetter CContradiction CInvalidCount c_x_law_learned p_x_law_learned c_law p_law) (LB : Lms K mg base c_x_law_learned p_x_law_learned c_law p_law) {f : Addr} {fd : FuncData} (F : FunC K "law" "law" s_law c_law f fd) : FnOk P w K mg base CX0 74 f fd ["_law_script"] (sp_lawL K (TL p_x_law_learned p_law)) := by
  refine F.ok sc_law (fun vs H Q E h => ?len) (fun A outer s H vs Q E hr h => ?_)
  case len => obtain ⟨a, sc, rfl, _⟩ := h; rfl
  · obtain ⟨a, sc, rfl, ha, tab, k⟩ := h
    refine ⟨_, (pss_cons (ps_set (i := 1) sc_law.nd rfl (Or.inl rfl) (pe_g (ok_x_law_dice (K := K) T) (hr.mono (by decide)) pass0 (pa_cons (pv 0) pa_nil)))
    (pss_cons (ps_for PassesOwn.never rfl (pi_range1 rfl T.n_range (pa_cons pe_int pa_nil)) (pg_name (i := 2) sc_law.nd rfl (Or.inl rfl)) (pss_cons (ps_set (i := 3) sc_law.nd rfl (Or.inl rfl) (pe_g (ok_x_law_some (K := K) T) (hr.mono (by decide)) pass0 (pa_cons (pv 1) (pa_cons pe_int (pa_cons pe_int pa_nil)))))
    (pss_cons (ps_asg (pe_g (ok_x_law_keys (K := K) T) (hr.mono (by decide)) pass0 (pa_cons (pv 3) pa_nil)) (pg_tupK (K := K) (n := 2) rfl rfl (pgs_cons (pg_name (i := 4) sc_law.nd rfl (Or.inl rfl)) (pgs_cons (pg_name (i := 5) sc_law.nd rfl (Or.inl rfl)) pgs_nil))))
    (pss_cons (ps_set (i := 6) sc_law.nd rfl (Or.inl rfl) (pe_k (ok_KeyReader_init (K := K) T) (hr.mono (by decide)) T.g_KeyReader pass0 (pa_cons (pe_g (ok_x_law_made (K := K) T) (hr.mono (by decide)) pass0 (pa_cons (pv 3) pa_nil)) pa_nil)))
    (pss_cons (ps_set (i := 7) sc_law.nd rfl (Or.inl rfl) (pe_g (ok_x_law_learned (K := K) T LB) (hr.mono (by decide)) pass0 (pa_cons (pv 1) (pa_cons (pv 4) (pa_cons (pv 5) (pa_cons (pv 6) (pa_cons pe_int pa_nil)))))))
    (pss_cons (ps_if (pt_cmpR oIsN (pv 7) pe_non (nomark _)) (pss_one (ps_ret pe_bl))
    pss_nil)
    (pss_cons (ps_asg (pv 7) (pg_tupK (K := K) (n := 3) rfl rfl (pgs_cons (pg_name (i := 8) sc_law.nd rfl (Or.inl rfl)) (pgs_cons (pg_name (i := 9) sc_law.nd rfl (Or.inl rfl)) (pgs_cons (pg_name (i := 10) sc_law.nd rfl (Or.inl rfl)) pgs_nil)))))
    (pss_cons (ps_if (pt_cmpR (neK (K := K) rfl hr.units) (pe_m0 (pv 6) T.cKeyReader (ok_KeyReader_count_texts (K := K) T) (hr.mono (by decide)) pass0) (pe_g (ok_x_law_texts (K := K) T) (hr.mono (by decide)) pass0 (pa_cons (pv 8) (pa_cons (pv 9) pa_nil))) (nomark _)) (pss_one (ps_ret pe_bl))
    pss_nil)
    (pss_cons (ps_if (pt_not (pt_val (pe_g (ok_x_law_like T) (hr.mono (by decide)) pass0 (pa_cons (pe_lst (pa_cons (pe_p (pv 6) T.cKeyReader (ok_KeyReader_known_letters (K := K) T) (hr.mono (by decide)) pass0) (pa_cons (pe_p (pv 6) T.cKeyReader (ok_KeyReader_observations (K := K) T) (hr.mono (by decide)) pass0) pa_nil))) (pa_cons (pe_lst (pa_cons (pv 9) (pa_cons (pv 10) pa_nil))) pa_nil))))) (pss_one (ps_ret pe_bl))
    pss_nil)
    (pss_one (ps_if (pt_cmpR (neK (K := K) rfl hr.units) (pe_callTy (call_list_dK rfl) rfl T.n_list (by decide +kernel) (pa_cons (pe_p (pv 6) T.cKeyReader (ok_KeyReader_known_letters (K := K) T) (hr.mono (by decide)) pass0) pa_nil)) (pe_callB (sortDI_any (K := K) rfl rfl) rfl T.n_sorted (by decide +kernel) (pa_cons (pv 9) pa_nil)) (nomark _)) (pss_one (ps_ret pe_bl))
    pss_nil)))))))))))
    (pss_one (ps_ret pe_bl)))), ?_⟩
    refine rd_startE (show start N_law [.ref a] = [some (.ref a), none, none, none, none, none, none, none, none, none, none] from rfl) ?_
    walk_at "rd_law45"
    refine rd_dice ha fun r H0 S0 _ row0 => ?_
    have tab0 := (Kl.same S0).tabs tab
    have n1 := T.ne_Text_KeyReader
    have n2 := T.ne_Part_KeyReader
    clear ha tab
    walk_at "rd_law45"
    refine ⟨_, rfl, by omega, by omega, for_range (n := 3) (fun i σ H' => ∃ v2 v3 v4 v5 v6 v7 v8 v9 v10, σ = [some (.ref a), some (.ref r), v2, v3, v4, v5, v6, v7, v8, v9, v10] ∧ RowAt K H' r ∧ LamX.Tabs (TL p_x_law_learned p_law) H') ⟨_, _, _, _, _, _, _, _, _, rfl, row0, tab0⟩ ?_ ?_⟩
    · clear row0 tab0 S0
      rintro i σ H1 hi ⟨v2, v3, v4, v5, v6, v7, v8, v9, v10, rfl, row, tab⟩
      walk_at "rd_law45"
      refine rd_some row (by omega) (by omega) (by omega) (by omega) fun le ms ss H2 k2 row2 el st ok z1 len zb _ => ?_
      have tab2 := (Kl.kp k2).tabs tab
      clear row tab k2
      walk_at "rd_law45"
      refine rd_keysL (SqL.of el) st ok (by omega) (by omega) fun p3 lk H3 S3 e3 ek => ?_
      refine rd_gtup (SqT.of e3) rfl ?_
      have row3 := row2.mono S3
      have tab3 := (Kl.same S3).tabs tab2
      have el3 := S3 _ _ el
      have st3 := st.mono S3
      clear row2 tab2 el st S3 e3
      walk_at "rd_law45"
      refine rd_made (SqL.of el3) st3 ok (by omega) fun p4 H4 S4 T4 => ?_
      have row4 := row3.mono S4
      have tab4 := (Kl.same S4).tabs tab3
      have ek4 := S4 _ _ ek
      clear row3 tab3 el3 st3 S4 ek
      walk_at "rd_law45"
      refine rd_mkReader T4 fun x hl d H5 S5 nx nh nd R5 => ?_
      have nw : ∀ a ∈ [x, hl, d], H4 a = none := fun a ha => by
        simp only [List.mem_cons, List.not_mem_nil, or_false] at ha
        rcases ha with rfl | rfl | rfl <;> assumption
      have row5 := RowN.of row4 S5 nw
      have tab5 := (Kl.same S5).tabs tab4
      have ek5 := S5 _ _ ek4
      have nlk : lk ∉ [x, hl, d] := fun z => by rw [nw _ z] at ek4; cases ek4
      clear row4 tab4 ek4 nw nx nh nd S5 T4
      walk_at "rd_law45"
      refine rd_learned row5 tab5 ek5 nlk R5 ok (by omega) z1 (by omega) (by omega) (by omega) fun p6 H6 kd lc dk lo f1 ls kn ob ms6 e6 L6 X6 oks lob => ?_
      clear row5 tab5 ek5 nlk R5
      have nk6 : (tyL ss).length ≤ 600 := by have := tyL_small ok; omega
      walk_at "rd_law45"
      refine ⟨L6.rd.insM, ?_⟩
      walk_at "rd_law45"
      refine ⟨x, hl, kd, ss, f1, ls, ob, rfl, L6.rd, fun H7 S7 => ?_⟩
      have L7 := L6.same S7
      clear L6 X6 S7 e6
      walk_at "rd_law45"
      refine rd_texts L7.cl.at L7.kd L7.ko L7.rd.lst (by omega) fun H8 S8 => ?_
      have L8 := L7.same S8
      clear L7 S8
      walk_at "rd_law45"
      refine rd_rdKnownH L8.rd fun H9 p9 S9 n9 e9 => ?_
      have L9 := L8.same S9
      clear L8 S9
      walk_at "rd_law45"
      refine rd_rdObsH L9.rd (by omega) fun H10 p10 ms10 S10 n10 e10 o10 => ?_
      have L10 := L9.same S10
      have e9 := S10 _ _ e9
      clear L9 S10
      walk_at "rd_law45"
      intro p11 H11 S11 e11 _
      walk_at "rd_law45"
      intro p12 H12 S12 e12 _
      have S := S11.trans S12
      have L12 := L10.same S
      have e9 := S _ _ e9
      have e10 := S _ _ e10
      have o10 := o10.mono S
      have e11 := S12 _ _ e11
      have ok4 : ∀ o ∈ ob, ∀ p w, o = .word p w → w.length ≤ 1000 := fun o ho p w e => by
        have := oks o ho
        rw [e] at this
        have := this.2.1
        omega
      clear L10 S S11 S12
      walk_at "rd_law45"
      refine rd_likeE (n := 5) (.inr (.inr (.inr (.inl ⟨p11, p12, _, _, rfl, rfl, .inr ⟨SqL.of e11, SqL.of e12⟩, rfl, by rw [sizeLine_eq]; show 2 ≤ 16777216; decide, fun i x y hx hy => ?_⟩)))) fun H13 S13 => ?_
      · match i, hx, hy with
        | 0, hx, hy => cases hx; cases hy; exact .inr (.inr (.inr (.inr ⟨p9, dk, _, _, rfl, rfl, e9, L12.kd, L12.ko.hit⟩)))
        | 1, hx, hy => cases hx; cases hy; exact AlE.of (alX_obs (n := 1) ok4 (by omega) (SqL.of e10) (SqL.of L12.lo) o10 L12.ob)
        | i + 2, hx, hy => simp at hx
      have L13 := L12.same S13
      clear L12 S13 e9 e10 o10 e11 e12
      walk_at "rd_law45"
      refine rd_rdKnownH L13.rd fun H14 p14 S14 n14 e14 => ?_
      have L14 := L13.same S14
      clear L13 S14
      walk_at "rd_law45"
      refine rd_listKn e14 fun p15 H15 S15 e15 => ?_
      have L15 := L14.same S15
      clear L14 S15 e14
      walk_at "rd_law45"
      refine rd_sortKo L15.kd L15.ko fun p16 H16 S16 e16 => ?_
      refine rd_neNN (S16 _ _ e15) e16 ?_
      rw [decide_eq_true rfl]
      have L16 := L15.same S16
      walk_at "rd_law45"
      exact ⟨_, _, _, _, _, _, _, _, _, rfl, L16.row.at, L16.tab⟩
    · rintro σ H' ⟨v2, v3, v4, v5, v6, v7, v8, v9, v10, rfl, row, tab⟩
      walk_at "rd_law45"
      exact k _
end
theorem bf_is_integer : BF "is_integer" "is_integer" s_is_integer ["value", "low", "high"] := fun _ _ _ _ _ _ us hl => match us, hl with | [_, _, _], _ => rfl
theorem bf_is_letter : BF "is_letter" "is_letter" s_is_letter ["value"] := fun _ _ _ _ _ _ us hl => match us, hl with | [_], _ => rfl
theorem bf_is_word : BF "is_word" "is_word" s_is_word ["value"] := fun _ _ _ _ _ _ us hl => match us, hl with | [_], _ => rfl
theorem bf_is_step : BF "is_step" "is_step" s_is_step ["value", "size"] := fun _ _ _ _ _ _ us hl => match us, hl with | [_, _], _ => rfl
theorem bf_Part_init : BF "__init__" "Part.__init__" s_Part_init ["self", "start", "length", "is_typed", "first", "last"] := fun _ _ _ _ _ _ us hl => match us, hl with | [_, _, _, _, _, _], _ => rfl
theorem bf_Part_source : BF "source" "Part.source" s_Part_source ["self", "place"] := fun _ _ _ _ _ _ us hl => match us, hl with | [_, _], _ => rfl
theorem bf_Text_init : BFS "__init__" "Text.__init__" s_Text_init ["self"] "steps" := fun _ _ _ _ _ _ us rest hl => match us, rest, hl with | [_], [], _ => rfl | [_], _ :: _, _ => rfl
theorem bf_Text_steps : BF "steps" "Text.steps" s_Text_steps ["self"] := fun _ _ _ _ _ _ us hl => match us, hl with | [_], _ => rfl
theorem bf_Text_typed_keys : BF "typed_keys" "Text.typed_keys" s_Text_typed_keys ["self"] := fun _ _ _ _ _ _ us hl => match us, hl with | [_], _ => rfl
theorem bf_Text_size : BF "size" "Text.size" s_Text_size ["self"] := fun _ _ _ _ _ _ us hl => match us, hl with | [_], _ => rfl
theorem bf_Text_check_place : BF "check_place" "Text.check_place" s_Text_check_place ["self", "place"] := fun _ _ _ _ _ _ us hl => match us, hl with | [_, _], _ => rfl
theorem bf_Text_key_of : BF "key_of" "Text.key_of" s_Text_key_of ["self", "place"] := fun _ _ _ _ _ _ us hl => match us, hl with | [_, _], _ => rfl
theorem bf_Text_call : BF "__call__" "Text.__call__" s_Text_call ["self", "place"] := fun _ _ _ _ _ _ us hl => match us, hl with | [_, _], _ => rfl
theorem bf_Editor_init : BFS "__init__" "Editor.__init__" s_Editor_init ["self"] "steps" := fun _ _ _ _ _ _ us rest hl => match us, rest, hl with | [_], [], _ => rfl | [_], _ :: _, _ => rfl
theorem bf_Editor_present_text : BF "present_text" "Editor.present_text" s_Editor_present_text ["self"] := fun _ _ _ _ _ _ us hl => match us, hl with | [_], _ => rfl
theorem bf_Editor_apply : BFS "apply" "Editor.apply" s_Editor_apply ["self"] "operations" := fun _ _ _ _ _ _ us rest hl => match us, rest, hl with | [_], [], _ => rfl | [_], _ :: _, _ => rfl
theorem bf_Editor_replay : BF "replay" "Editor.replay" s_Editor_replay ["cls", "steps", "operations"] := fun _ _ _ _ _ _ us hl => match us, hl with | [_, _, _], _ => rfl
theorem bf_KeyReader_init : BF "__init__" "KeyReader.__init__" s_KeyReader_init ["self", "text"] := fun _ _ _ _ _ _ us hl => match us, hl with | [_, _], _ => rfl
theorem bf_KeyReader_head : BF "head" "KeyReader.head" s_KeyReader_head ["self", "key"] := fun _ _ _ _ _ _ us hl => match us, hl with | [_, _], _ => rfl
theorem bf_KeyReader_accept_letter : BF "accept_letter" "KeyReader.accept_letter" s_KeyReader_accept_letter ["self", "key", "letter"] := fun _ _ _ _ _ _ us hl => match us, hl with | [_, _, _], _ => rfl
theorem bf_KeyReader_known_count : BF "known_count" "KeyReader.known_count" s_KeyReader_known_count ["self"] := fun _ _ _ _ _ _ us hl => match us, hl with | [_], _ => rfl
theorem bf_KeyReader_see : BF "see" "KeyReader.see" s_KeyReader_see ["self", "place", "letter"] := fun _ _ _ _ _ _ us hl => match us, hl with | [_, _, _], _ => rfl
theorem bf_KeyReader_known_letters : BF "known_letters" "KeyReader.known_letters" s_KeyReader_known_letters ["self"] := fun _ _ _ _ _ _ us hl => match us, hl with | [_], _ => rfl
theorem bf_KeyReader_observations : BF "observations" "KeyReader.observations" s_KeyReader_observations ["self"] := fun _ _ _ _ _ _ us hl => match us, hl with | [_], _ => rfl
theorem bf_KeyReader_open_heads : BF "open_heads" "KeyReader.open_heads" s_KeyReader_open_heads ["self"] := fun _ _ _ _ _ _ us hl => match us, hl with | [_], _ => rfl
theorem bf_KeyReader_count_texts : BF "count_texts" "KeyReader.count_texts" s_KeyReader_count_texts ["self"] := fun _ _ _ _ _ _ us hl => match us, hl with | [_], _ => rfl
theorem bf_KeyReader_see_word : BF "see_word" "KeyReader.see_word" s_KeyReader_see_word ["self", "first", "word"] := fun _ _ _ _ _ _ us hl => match us, hl with | [_, _, _], _ => rfl
theorem bf_KeyReader_hear_alike : BF "hear_alike" "KeyReader.hear_alike" s_KeyReader_hear_alike ["self", "place", "other"] := fun _ _ _ _ _ _ us hl => match us, hl with | [_, _, _], _ => rfl
theorem bf_x_law_dice : BF "_law_dice" "_law_dice" s_x_law_dice ["_law_script"] := fun _ _ _ _ _ _ us hl => match us, hl with | [_], _ => rfl
theorem bf_x_law_next : BF "_law_next" "_law_next" s_x_law_next ["_law_dice_here", "_law_many"] := fun _ _ _ _ _ _ us hl => match us, hl with | [_, _], _ => rfl
theorem bf_x_law_pick : BF "_law_pick" "_law_pick" s_x_law_pick ["_law_d", "_law_some_here"] := fun _ _ _ _ _ _ us hl => match us, hl with | [_, _], _ => rfl
theorem bf_x_law_told : BF "_law_told" "_law_told" s_x_law_told ["_law_work"] := fun _ _ _ _ _ _ us hl => match us, hl with | [_], _ => rfl
theorem bf_x_law_word : BF "_law_word" "_law_word" s_x_law_word ["_law_d"] := fun _ _ _ _ _ _ us hl => match us, hl with | [_], _ => rfl
theorem bf_x_law_drawn : BF "_law_drawn" "_law_drawn" s_x_law_drawn ["_law_d", "_law_total", "_law_most"] := fun _ _ _ _ _ _ us hl => match us, hl with | [_, _, _], _ => rfl
theorem bf_x_law_made : BF "_law_made" "_law_made" s_x_law_made ["_law_steps"] := fun _ _ _ _ _ _ us hl => match us, hl with | [_], _ => rfl
theorem bf_x_law_some : BF "_law_some" "_law_some" s_x_law_some ["_law_d", "_law_count", "_law_most"] := fun _ _ _ _ _ _ us hl => match us, hl with | [_, _, _], _ => rfl
theorem bf_x_law_keys : BF "_law_keys" "_law_keys" s_x_law_keys ["_law_steps"] := fun _ _ _ _ _ _ us hl => match us, hl with | [_], _ => rfl
theorem bf_x_law_like : BF "_law_like" "_law_like" s_x_law_like ["_law_found", "_law_due"] := fun _ _ _ _ _ _ us hl => match us, hl with | [_, _], _ => rfl
theorem bf_x_law_joined : BF "_law_joined" "_law_joined" s_x_law_joined ["_law_classes", "_law_one", "_law_two"] := fun _ _ _ _ _ _ us hl => match us, hl with | [_, _, _], _ => rfl
theorem bf_x_law_seen : BF "_law_seen" "_law_seen" s_x_law_seen ["_law_classes", "_law_known", "_law_row_here", "_law_places"] := fun _ _ _ _ _ _ us hl => match us, hl with | [_, _, _, _], _ => rfl
theorem bf_x_law_heard : BF "_law_heard" "_law_heard" s_x_law_heard ["_law_classes", "_law_known", "_law_one", "_law_two"] := fun _ _ _ _ _ _ us hl => match us, hl with | [_, _, _, _], _ => rfl
theorem bf_x_law_texts : BF "_law_texts" "_law_texts" s_x_law_texts ["_law_classes", "_law_known"] := fun _ _ _ _ _ _ us hl => match us, hl with | [_, _], _ => rfl
theorem bf_x_law_row : BF "_law_row" "_law_row" s_x_law_row ["_law_d", "_law_typed", "_law_row_here"] := fun _ _ _ _ _ _ us hl => match us, hl with | [_, _, _], _ => rfl
theorem bf_x_law_observe : BF "_law_observe" "_law_observe" s_x_law_observe ["_law_reader", "_law_word_here", "_law_place", "_law_value"] := fun _ _ _ _ _ _ us hl => match us, hl with | [_, _, _, _], _ => rfl
theorem bf_x_law_learned : BF "_law_learned" "_law_learned" s_x_law_learned ["_law_d", "_law_typed", "_law_row_here", "_law_reader", "_law_most"] := fun _ _ _ _ _ _ us hl => match us, hl with | [_, _, _, _, _], _ => rfl
theorem bf_law : BF "law" "law" s_law ["_law_script"] := fun _ _ _ _ _ _ us hl => match us, hl with | [_], _ => rfl
theorem fin {q : Program} {l : PySem.W.OpenLaw} {w : World} {n : Nat} {K : PySem.W.Frag} {h : Heap} {mg : Str → Option Value} {fa CText CPart CEditor CKeyReader CTextError CInvalidStep CInvalidOperation CDecodeError CNotationError CTooLong CInvalidPlace CInvalidLetter CContradiction CInvalidCount c_x_law_learned p_x_law_learned c_law p_law : Addr} (X : K.In h) (G : h.Ns mainGlobals mg) (A : AllTab q K mg h) (hmg : mg "law" = some (.ref fa))
    (gText : PySem.W.nsIn K mainGlobals "Text" = some (some (.ref CText)))
    (gPart : PySem.W.nsIn K mainGlobals "Part" = some (some (.ref CPart)))
    (gEditor : PySem.W.nsIn K mainGlobals "Editor" = some (some (.ref CEditor)))
    (gKeyReader : PySem.W.nsIn K mainGlobals "KeyReader" = some (some (.ref CKeyReader)))
    (gTextError : PySem.W.nsIn K mainGlobals "TextError" = some (some (.ref CTextError)))
    (gInvalidStep : PySem.W.nsIn K mainGlobals "InvalidStep" = some (some (.ref CInvalidStep)))
    (gInvalidOperation : PySem.W.nsIn K mainGlobals "InvalidOperation" = some (some (.ref CInvalidOperation)))
    (gDecodeError : PySem.W.nsIn K mainGlobals "DecodeError" = some (some (.ref CDecodeError)))
    (gNotationError : PySem.W.nsIn K mainGlobals "NotationError" = some (some (.ref CNotationError)))
    (gTooLong : PySem.W.nsIn K mainGlobals "TooLong" = some (some (.ref CTooLong)))
    (gInvalidPlace : PySem.W.nsIn K mainGlobals "InvalidPlace" = some (some (.ref CInvalidPlace)))
    (gInvalidLetter : PySem.W.nsIn K mainGlobals "InvalidLetter" = some (some (.ref CInvalidLetter)))
    (gContradiction : PySem.W.nsIn K mainGlobals "Contradiction" = some (some (.ref CContradiction)))
    (gInvalidCount : PySem.W.nsIn K mainGlobals "InvalidCount" = some (some (.ref CInvalidCount)))
    (T : (mg "Text" = some (.ref CText) ∧ mg "Part" = some (.ref CPart) ∧ mg "Editor" = some (.ref CEditor) ∧ mg "KeyReader" = some (.ref CKeyReader) ∧ mg "TextError" = some (.ref CTextError) ∧ mg "InvalidStep" = some (.ref CInvalidStep) ∧ mg "InvalidOperation" = some (.ref CInvalidOperation) ∧ mg "DecodeError" = some (.ref CDecodeError) ∧ mg "NotationError" = some (.ref CNotationError) ∧ mg "TooLong" = some (.ref CTooLong) ∧ mg "InvalidPlace" = some (.ref CInvalidPlace) ∧ mg "InvalidLetter" = some (.ref CInvalidLetter) ∧ mg "Contradiction" = some (.ref CContradiction) ∧ mg "InvalidCount" = some (.ref CInvalidCount)) → Txt K mg CText CPart CEditor CKeyReader CTextError CInvalidStep CInvalidOperation CDecodeError CNotationError CTooLong CInvalidPlace CInvalidLetter CContradiction CInvalidCount c_x_law_learned p_x_law_learned c_law p_law)
    (hx_x_law_learned : ((recsOf q).any fun e => e.name == ("_law_learned" : Str)) = true)
    (hx_law : ((recsOf q).any fun e => e.name == ("law" : Str)) = true)
    (dp_x_law_learned_law : p_x_law_learned ≠ p_law)
    : LamX.LawAtS l w K CX0 74 n "_law_script" mg fa h := by
  have T := T ⟨PySem.W.mg_of X G gText, PySem.W.mg_of X G gPart, PySem.W.mg_of X G gEditor, PySem.W.mg_of X G gKeyReader, PySem.W.mg_of X G gTextError, PySem.W.mg_of X G gInvalidStep, PySem.W.mg_of X G gInvalidOperation, PySem.W.mg_of X G gDecodeError, PySem.W.mg_of X G gNotationError, PySem.W.mg_of X G gTooLong, PySem.W.mg_of X G gInvalidPlace, PySem.W.mg_of X G gInvalidLetter, PySem.W.mg_of X G gContradiction, PySem.W.mg_of X G gInvalidCount⟩
  obtain ⟨f, fd, F, a, b⟩ := T.d_law
  have e := hmg.symm.trans a
  cases e
  refine ⟨fd, [(c_x_law_learned, p_x_law_learned), (c_law, p_law)], sp_lawL K (TL p_x_law_learned p_law), ?_, ?_, ?_, fun s u => ?_, fun H a ns _ _ hT hS => ⟨a, ns, rfl, hS, ?_, fun _ => rfl⟩, fun base KB NB hT => ok_law T ?_ F⟩
  · intro p hp
    simp only [List.mem_cons, List.not_mem_nil, or_false] at hp
    rcases hp with rfl | rfl
    · exact T.t_x_law_learned.empty A T.d_x_law_learned hx_x_law_learned
    · exact T.t_law.empty A T.d_law hx_law
  · intro p hp
    simp only [List.mem_cons, List.not_mem_nil, or_false] at hp
    rcases hp with rfl | rfl
    · exact T.t_x_law_learned.no
    · exact T.t_law.no
  · intro p hp
    simp only [List.mem_cons, List.not_mem_nil, or_false] at hp
    rcases hp with rfl | rfl
    · exact PySem.W.codeHd_of_K X T.t_x_law_learned.hd
    · exact PySem.W.codeHd_of_K X T.t_law.hd
  · obtain ⟨oc, od, kV, doc, pm, an, ct, osl, rfl, lk, hcd⟩ := F.ex
    exact .of_eq (bf_law kV doc pm an (.ref c_law) ct [u] rfl)
  · intro p hp
    simp only [List.mem_cons, List.not_mem_nil, or_false] at hp
    rcases hp with rfl | rfl
    · exact LamX.TabS.nil (hT (c_x_law_learned, p_x_law_learned) (.head _))
    · exact LamX.TabS.nil (hT (c_law, p_law) (.tail _ (.head _)))
  · refine ⟨hT (c_x_law_learned, p_x_law_learned) (.head _), ?_, hT (c_law, p_law) (.tail _ (.head _)), ?_⟩
    · intro p hp e
      simp only [List.mem_cons, List.not_mem_nil, or_false] at hp
      rcases hp with rfl | rfl
      · rfl
      · exact absurd e.symm dp_x_law_learned_law
    · intro p hp e
      simp only [List.mem_cons, List.not_mem_nil, or_false] at hp
      rcases hp with rfl | rfl
      · exact absurd e dp_x_law_learned_law
      · rfl
end L2.Px
open PySem PySem.W PyProof.Rows
local macro_rules | `(tactic| o_head (kmHook $K:term $as:term $e:term $ts:term)) => `(tactic|
    refine L2.Px.head_km (q := L2.Px.qv) (ek := L2.Px.hd_as) (d := HeadRun.topDef PySem.Challenge.pw_pastekeys_k45_readers 58) (kwd := []) "special-get-raises"
      (by kernel_rfl) (fun s => by kernel_rfl) L2.Px.hd_r0 L2.Px.hd_r1 (by kernel_rfl) (by kernel_rfl) (by kernel_rfl) (by rfl)
      (by first | assumption | decide +kernel) (by decide +kernel) ⟨rfl, rfl, rfl, rfl, rfl, by decide +kernel⟩ (by w_witness2) ?_)
set_option maxRecDepth 100000 in
set_option maxHeartbeats 0 in
theorem PySem.Challenge.cw_pastekeys_k45_readers_holds : PySem.Challenge.rw_pastekeys_k45_readers.Holds := by
  w_on; o_law; k_head
  k_fill
  refine L2.Px.walk_ofT (l := PySem.Challenge.rw_pastekeys_k45_readers) (k := 74) (x := "_law_script") rfl (by decide) rfl ⟨rfl, by decide, by decide⟩ (fun w h Y => PySem.W.km_in_of Y) ?F
  case F =>
    intro w mg fa h KX G XL hmg AT
    refine' L2.Px.fin KX G AT hmg ?gText ?gPart ?gEditor ?gKeyReader ?gTextError ?gInvalidStep ?gInvalidOperation ?gDecodeError ?gNotationError ?gTooLong ?gInvalidPlace ?gInvalidLetter ?gContradiction ?gInvalidCount ?t ?hx_x_law_learned ?hx_law ?dp_x_law_learned_law
    (case gText => k_is)
    (case gPart => k_is)
    (case gEditor => k_is)
    (case gKeyReader => k_is)
    (case gTextError => k_is)
    (case gInvalidStep => k_is)
    (case gInvalidOperation => k_is)
    (case gDecodeError => k_is)
    (case gNotationError => k_is)
    (case gTooLong => k_is)
    (case gInvalidPlace => k_is)
    (case gInvalidLetter => k_is)
    (case gContradiction => k_is)
    (case gInvalidCount => k_is)
    case t =>
      intro gg
      obtain ⟨qText, qPart, qEditor, qKeyReader, qTextError, qInvalidStep, qInvalidOperation, qDecodeError, qNotationError, qTooLong, qInvalidPlace, qInvalidLetter, qContradiction, qInvalidCount⟩ := gg
      refine' L2.Px.Txt.mk ?d_is_integer ?d_is_letter ?d_is_word ?d_is_step ?d_Part_init ?d_Part_source ?d_Text_init ?d_Text_steps ?d_Text_typed_keys ?d_Text_size ?d_Text_check_place ?d_Text_key_of ?d_Text_call ?d_Editor_init ?d_Editor_present_text ?d_Editor_apply ?d_Editor_replay ?d_KeyReader_init ?d_KeyReader_head ?d_KeyReader_accept_letter ?d_KeyReader_known_count ?d_KeyReader_see ?d_KeyReader_known_letters ?d_KeyReader_observations ?d_KeyReader_open_heads ?d_KeyReader_count_texts ?d_KeyReader_see_word ?d_KeyReader_hear_alike ?d_x_law_dice ?d_x_law_next ?d_x_law_pick ?d_x_law_told ?d_x_law_word ?d_x_law_drawn ?d_x_law_made ?d_x_law_some ?d_x_law_keys ?d_x_law_like ?d_x_law_joined ?d_x_law_seen ?d_x_law_heard ?d_x_law_texts ?d_x_law_row ?d_x_law_observe ?d_x_law_learned ?d_law ?cText ?g_Text ?cPart ?g_Part ?cEditor ?g_Editor ?cKeyReader ?g_KeyReader ?ne_Text_Part ?ne_Text_Editor ?ne_Text_KeyReader ?ne_Part_Editor ?ne_Part_KeyReader ?ne_Editor_KeyReader ?xb_TextError ?x_InvalidStep ?x_InvalidOperation ?x_DecodeError ?x_NotationError ?x_TooLong ?x_InvalidPlace ?x_InvalidLetter ?x_Contradiction ?x_InvalidCount ?z_InvalidPlace ?z_InvalidLetter ?z_Contradiction ?zs_Contradiction ?t_x_law_learned ?t_law ?na_Part_start ?na_Part_length ?na_Part_is_typed ?na_Part_first ?na_Part_last ?na_Text_made ?na_Text_typed ?na_Text_parts ?na_Text_total ?na_Editor_present ?na_Editor_done ?na_Editor_undone ?na_Editor_is_open ?na_Editor_kept_present ?na_Editor_kept_done ?na_Editor_kept_undone ?na_KeyReader_source_text ?na_KeyReader_heads ?na_KeyReader_letters ?na_KeyReader_seen ?k_LETTERS ?k_MAX_WORD ?k_MAX_STEPS ?k_MAX_TIMES ?k_MAX_SIZE_texts ?n_isinstance ?n_int ?n_bool ?n_str ?n_len ?n_all ?n_tuple ?n_list ?n_range ?n_enumerate ?n_min ?n_max ?n_sorted ?n_dict ?n_ValueError
      (case d_is_integer => open L2 L2.Px StX ClX in (refine' defG_mk KX G ?a ?l ?k ?b; (case a => k_is); (case l => (refine' atF ?l1 ?l2; (case l1 => k_is); (case l2 => k_is))); (case k => k_is); (case b => exact bf_is_integer)))
      (case d_is_letter => open L2 L2.Px StX ClX in (refine' defG_mk KX G ?a ?l ?k ?b; (case a => k_is); (case l => (refine' atF ?l1 ?l2; (case l1 => k_is); (case l2 => k_is))); (case k => k_is); (case b => exact bf_is_letter)))
      (case d_is_word => open L2 L2.Px StX ClX in (refine' defG_mk KX G ?a ?l ?k ?b; (case a => k_is); (case l => (refine' atF ?l1 ?l2; (case l1 => k_is); (case l2 => k_is))); (case k => k_is); (case b => exact bf_is_word)))
      (case d_is_step => open L2 L2.Px StX ClX in (refine' defG_mk KX G ?a ?l ?k ?b; (case a => k_is); (case l => (refine' atF ?l1 ?l2; (case l1 => k_is); (case l2 => k_is))); (case k => k_is); (case b => exact bf_is_step)))
      (case d_Part_init => open L2 L2.Px StX ClX in (refine' defK_mk ?mk ?a ?fn ?kc ?l ?k ?b; (case mk => k_is); (case a => k_is); (case fn => k_is); (case kc => k_is); (case l => (refine' atF ?l1 ?l2; (case l1 => k_is); (case l2 => k_is))); (case k => k_is); (case b => exact bf_Part_init)))
      (case d_Part_source => open L2 L2.Px StX ClX in (refine' defM_mk ?a ?fn ?l ?k ?b; (case a => k_is); (case fn => k_is); (case l => (refine' atF ?l1 ?l2; (case l1 => k_is); (case l2 => k_is))); (case k => k_is); (case b => exact bf_Part_source)))
      (case d_Text_init => open L2 L2.Px StX ClX in (refine' defKS_mk ?mk ?a ?fn ?kc ?l ?k ?b; (case mk => k_is); (case a => k_is); (case fn => k_is); (case kc => k_is); (case l => (refine' atF ?l1 ?l2; (case l1 => k_is); (case l2 => k_is))); (case k => k_is); (case b => exact bf_Text_init)))
      (case d_Text_steps => open L2 L2.Px StX ClX in (refine' defP_mk ?a ?g ?t ?r ?l ?k ?b; (case a => k_is); (case g => k_is); (case t => k_is); (case r => k_is); (case l => (refine' atF ?l1 ?l2; (case l1 => k_is); (case l2 => k_is))); (case k => k_is); (case b => exact bf_Text_steps)))
      (case d_Text_typed_keys => open L2 L2.Px StX ClX in (refine' defP_mk ?a ?g ?t ?r ?l ?k ?b; (case a => k_is); (case g => k_is); (case t => k_is); (case r => k_is); (case l => (refine' atF ?l1 ?l2; (case l1 => k_is); (case l2 => k_is))); (case k => k_is); (case b => exact bf_Text_typed_keys)))
      (case d_Text_size => open L2 L2.Px StX ClX in (refine' defP_mk ?a ?g ?t ?r ?l ?k ?b; (case a => k_is); (case g => k_is); (case t => k_is); (case r => k_is); (case l => (refine' atF ?l1 ?l2; (case l1 => k_is); (case l2 => k_is))); (case k => k_is); (case b => exact bf_Text_size)))
      (case d_Text_check_place => open L2 L2.Px StX ClX in (refine' defM_mk ?a ?fn ?l ?k ?b; (case a => k_is); (case fn => k_is); (case l => (refine' atF ?l1 ?l2; (case l1 => k_is); (case l2 => k_is))); (case k => k_is); (case b => exact bf_Text_check_place)))
      (case d_Text_key_of => open L2 L2.Px StX ClX in (refine' defM_mk ?a ?fn ?l ?k ?b; (case a => k_is); (case fn => k_is); (case l => (refine' atF ?l1 ?l2; (case l1 => k_is); (case l2 => k_is))); (case k => k_is); (case b => exact bf_Text_key_of)))
      (case d_Text_call => open L2 L2.Px StX ClX in (refine' defX_mk ?r ?l ?k ?b; (case r => (refine' CallO.mk ?r1 ?r2 ?r3; (case r1 => k_is); (case r2 => k_is); (case r3 => k_is))); (case l => (refine' atF ?l1 ?l2; (case l1 => k_is); (case l2 => k_is))); (case k => k_is); (case b => exact bf_Text_call)))
      (case d_Editor_init => open L2 L2.Px StX ClX in (refine' defKS_mk ?mk ?a ?fn ?kc ?l ?k ?b; (case mk => k_is); (case a => k_is); (case fn => k_is); (case kc => k_is); (case l => (refine' atF ?l1 ?l2; (case l1 => k_is); (case l2 => k_is))); (case k => k_is); (case b => exact bf_Editor_init)))
      (case d_Editor_present_text => open L2 L2.Px StX ClX in (refine' defP_mk ?a ?g ?t ?r ?l ?k ?b; (case a => k_is); (case g => k_is); (case t => k_is); (case r => k_is); (case l => (refine' atF ?l1 ?l2; (case l1 => k_is); (case l2 => k_is))); (case k => k_is); (case b => exact bf_Editor_present_text)))
      (case d_Editor_apply => open L2 L2.Px StX ClX in (refine' defBS_mk ?r ?l ?k ?b; (case r => (refine' L2.BMeth.mk ?m1 ?m2 ?m3 ?m4 ?m5; (case m1 => (refine' L2.Meth.mk ?n1 ?n2 ?n3; (case n1 => k_is); (case n2 => k_is); (case n3 => k_is))); (case m2 => k_is); (case m3 => k_is); (case m4 => decide +kernel); (case m5 => k_is))); (case l => (refine' atF ?l1 ?l2; (case l1 => k_is); (case l2 => k_is))); (case k => k_is); (case b => exact bf_Editor_apply)))
      (case d_Editor_replay => open L2 L2.Px StX ClX in (refine' defC_mk (mc := .type "type") ?rd ?ga ?a ?r ?fi ?l ?k ?b; (case rd => k_is); (case ga => k_is); (case a => k_is); (case r => k_is); (case fi => k_is); (case l => (refine' atF ?l1 ?l2; (case l1 => k_is); (case l2 => k_is))); (case k => k_is); (case b => exact bf_Editor_replay)))
      (case d_KeyReader_init => open L2 L2.Px StX ClX in (refine' defK_mk ?mk ?a ?fn ?kc ?l ?k ?b; (case mk => k_is); (case a => k_is); (case fn => k_is); (case kc => k_is); (case l => (refine' atF ?l1 ?l2; (case l1 => k_is); (case l2 => k_is))); (case k => k_is); (case b => exact bf_KeyReader_init)))
      (case d_KeyReader_head => open L2 L2.Px StX ClX in (refine' defM_mk ?a ?fn ?l ?k ?b; (case a => k_is); (case fn => k_is); (case l => (refine' atF ?l1 ?l2; (case l1 => k_is); (case l2 => k_is))); (case k => k_is); (case b => exact bf_KeyReader_head)))
      (case d_KeyReader_accept_letter => open L2 L2.Px StX ClX in (refine' defM_mk ?a ?fn ?l ?k ?b; (case a => k_is); (case fn => k_is); (case l => (refine' atF ?l1 ?l2; (case l1 => k_is); (case l2 => k_is))); (case k => k_is); (case b => exact bf_KeyReader_accept_letter)))
      (case d_KeyReader_known_count => open L2 L2.Px StX ClX in (refine' defM_mk ?a ?fn ?l ?k ?b; (case a => k_is); (case fn => k_is); (case l => (refine' atF ?l1 ?l2; (case l1 => k_is); (case l2 => k_is))); (case k => k_is); (case b => exact bf_KeyReader_known_count)))
      (case d_KeyReader_see => open L2 L2.Px StX ClX in (refine' defM_mk ?a ?fn ?l ?k ?b; (case a => k_is); (case fn => k_is); (case l => (refine' atF ?l1 ?l2; (case l1 => k_is); (case l2 => k_is))); (case k => k_is); (case b => exact bf_KeyReader_see)))
      (case d_KeyReader_known_letters => open L2 L2.Px StX ClX in (refine' defP_mk ?a ?g ?t ?r ?l ?k ?b; (case a => k_is); (case g => k_is); (case t => k_is); (case r => k_is); (case l => (refine' atF ?l1 ?l2; (case l1 => k_is); (case l2 => k_is))); (case k => k_is); (case b => exact bf_KeyReader_known_letters)))
      (case d_KeyReader_observations => open L2 L2.Px StX ClX in (refine' defP_mk ?a ?g ?t ?r ?l ?k ?b; (case a => k_is); (case g => k_is); (case t => k_is); (case r => k_is); (case l => (refine' atF ?l1 ?l2; (case l1 => k_is); (case l2 => k_is))); (case k => k_is); (case b => exact bf_KeyReader_observations)))
      (case d_KeyReader_open_heads => open L2 L2.Px StX ClX in (refine' defM_mk ?a ?fn ?l ?k ?b; (case a => k_is); (case fn => k_is); (case l => (refine' atF ?l1 ?l2; (case l1 => k_is); (case l2 => k_is))); (case k => k_is); (case b => exact bf_KeyReader_open_heads)))
      (case d_KeyReader_count_texts => open L2 L2.Px StX ClX in (refine' defM_mk ?a ?fn ?l ?k ?b; (case a => k_is); (case fn => k_is); (case l => (refine' atF ?l1 ?l2; (case l1 => k_is); (case l2 => k_is))); (case k => k_is); (case b => exact bf_KeyReader_count_texts)))
      (case d_KeyReader_see_word => open L2 L2.Px StX ClX in (refine' defM_mk ?a ?fn ?l ?k ?b; (case a => k_is); (case fn => k_is); (case l => (refine' atF ?l1 ?l2; (case l1 => k_is); (case l2 => k_is))); (case k => k_is); (case b => exact bf_KeyReader_see_word)))
      (case d_KeyReader_hear_alike => open L2 L2.Px StX ClX in (refine' defM_mk ?a ?fn ?l ?k ?b; (case a => k_is); (case fn => k_is); (case l => (refine' atF ?l1 ?l2; (case l1 => k_is); (case l2 => k_is))); (case k => k_is); (case b => exact bf_KeyReader_hear_alike)))
      (case d_x_law_dice => open L2 L2.Px StX ClX in (refine' defG_mk KX G ?a ?l ?k ?b; (case a => k_is); (case l => (refine' atF ?l1 ?l2; (case l1 => k_is); (case l2 => k_is))); (case k => k_is); (case b => exact bf_x_law_dice)))
      (case d_x_law_next => open L2 L2.Px StX ClX in (refine' defG_mk KX G ?a ?l ?k ?b; (case a => k_is); (case l => (refine' atF ?l1 ?l2; (case l1 => k_is); (case l2 => k_is))); (case k => k_is); (case b => exact bf_x_law_next)))
      (case d_x_law_pick => open L2 L2.Px StX ClX in (refine' defG_mk KX G ?a ?l ?k ?b; (case a => k_is); (case l => (refine' atF ?l1 ?l2; (case l1 => k_is); (case l2 => k_is))); (case k => k_is); (case b => exact bf_x_law_pick)))
      (case d_x_law_told => open L2 L2.Px StX ClX in (refine' defG_mk KX G ?a ?l ?k ?b; (case a => k_is); (case l => (refine' atF ?l1 ?l2; (case l1 => k_is); (case l2 => k_is))); (case k => k_is); (case b => exact bf_x_law_told)))
      (case d_x_law_word => open L2 L2.Px StX ClX in (refine' defG_mk KX G ?a ?l ?k ?b; (case a => k_is); (case l => (refine' atF ?l1 ?l2; (case l1 => k_is); (case l2 => k_is))); (case k => k_is); (case b => exact bf_x_law_word)))
      (case d_x_law_drawn => open L2 L2.Px StX ClX in (refine' defG_mk KX G ?a ?l ?k ?b; (case a => k_is); (case l => (refine' atF ?l1 ?l2; (case l1 => k_is); (case l2 => k_is))); (case k => k_is); (case b => exact bf_x_law_drawn)))
      (case d_x_law_made => open L2 L2.Px StX ClX in (refine' defG_mk KX G ?a ?l ?k ?b; (case a => k_is); (case l => (refine' atF ?l1 ?l2; (case l1 => k_is); (case l2 => k_is))); (case k => k_is); (case b => exact bf_x_law_made)))
      (case d_x_law_some => open L2 L2.Px StX ClX in (refine' defG_mk KX G ?a ?l ?k ?b; (case a => k_is); (case l => (refine' atF ?l1 ?l2; (case l1 => k_is); (case l2 => k_is))); (case k => k_is); (case b => exact bf_x_law_some)))
      (case d_x_law_keys => open L2 L2.Px StX ClX in (refine' defG_mk KX G ?a ?l ?k ?b; (case a => k_is); (case l => (refine' atF ?l1 ?l2; (case l1 => k_is); (case l2 => k_is))); (case k => k_is); (case b => exact bf_x_law_keys)))
      (case d_x_law_like => open L2 L2.Px StX ClX in (refine' defG_mk KX G ?a ?l ?k ?b; (case a => k_is); (case l => (refine' atF ?l1 ?l2; (case l1 => k_is); (case l2 => k_is))); (case k => k_is); (case b => exact bf_x_law_like)))
      (case d_x_law_joined => open L2 L2.Px StX ClX in (refine' defG_mk KX G ?a ?l ?k ?b; (case a => k_is); (case l => (refine' atF ?l1 ?l2; (case l1 => k_is); (case l2 => k_is))); (case k => k_is); (case b => exact bf_x_law_joined)))
      (case d_x_law_seen => open L2 L2.Px StX ClX in (refine' defG_mk KX G ?a ?l ?k ?b; (case a => k_is); (case l => (refine' atF ?l1 ?l2; (case l1 => k_is); (case l2 => k_is))); (case k => k_is); (case b => exact bf_x_law_seen)))
      (case d_x_law_heard => open L2 L2.Px StX ClX in (refine' defG_mk KX G ?a ?l ?k ?b; (case a => k_is); (case l => (refine' atF ?l1 ?l2; (case l1 => k_is); (case l2 => k_is))); (case k => k_is); (case b => exact bf_x_law_heard)))
      (case d_x_law_texts => open L2 L2.Px StX ClX in (refine' defG_mk KX G ?a ?l ?k ?b; (case a => k_is); (case l => (refine' atF ?l1 ?l2; (case l1 => k_is); (case l2 => k_is))); (case k => k_is); (case b => exact bf_x_law_texts)))
      (case d_x_law_row => open L2 L2.Px StX ClX in (refine' defG_mk KX G ?a ?l ?k ?b; (case a => k_is); (case l => (refine' atF ?l1 ?l2; (case l1 => k_is); (case l2 => k_is))); (case k => k_is); (case b => exact bf_x_law_row)))
      (case d_x_law_observe => open L2 L2.Px StX ClX in (refine' defG_mk KX G ?a ?l ?k ?b; (case a => k_is); (case l => (refine' atF ?l1 ?l2; (case l1 => k_is); (case l2 => k_is))); (case k => k_is); (case b => exact bf_x_law_observe)))
      (case d_x_law_learned => open L2 L2.Px StX ClX in (refine' defGC_mk KX G ?a ?l ?k ?b; (case a => k_is); (case l => (refine' atC ?l1 ?l2; (case l1 => k_is); (case l2 => k_is))); (case k => k_is); (case b => exact bf_x_law_learned)))
      (case d_law => open L2 L2.Px StX ClX in (refine' defGC_mk KX G ?a ?l ?k ?b; (case a => k_is); (case l => (refine' atC ?l1 ?l2; (case l1 => k_is); (case l2 => k_is))); (case k => k_is); (case b => exact bf_law)))
      (case cText => (refine' L2.Cls.mk ?a1 ?a2 ?a3 ?a4; (case a1 => k_is); (case a2 => k_is); (case a3 => k_is); (case a4 => k_is)))
      (case g_Text => exact qText)
      (case cPart => (refine' L2.Cls.mk ?a1 ?a2 ?a3 ?a4; (case a1 => k_is); (case a2 => k_is); (case a3 => k_is); (case a4 => k_is)))
      (case g_Part => exact qPart)
      (case cEditor => (refine' L2.Cls.mk ?a1 ?a2 ?a3 ?a4; (case a1 => k_is); (case a2 => k_is); (case a3 => k_is); (case a4 => k_is)))
      (case g_Editor => exact qEditor)
      (case cKeyReader => (refine' L2.Cls.mk ?a1 ?a2 ?a3 ?a4; (case a1 => k_is); (case a2 => k_is); (case a3 => k_is); (case a4 => k_is)))
      (case g_KeyReader => exact qKeyReader)
      (case ne_Text_Part => decide)
      (case ne_Text_Editor => decide)
      (case ne_Text_KeyReader => decide)
      (case ne_Part_Editor => decide)
      (case ne_Part_KeyReader => decide)
      (case ne_Editor_KeyReader => decide)
      (case xb_TextError => (refine' L2.Px.XBs.mk ?a1 ?a2 ?a3 ?a4; (case a1 => exact qTextError); (case a2 => k_is); (case a3 => k_is); (case a4 => k_is)))
      (case x_InvalidStep => (refine' L2.Px.XNm.mk ?a1; (case a1 => exact qInvalidStep)))
      (case x_InvalidOperation => (refine' L2.Px.XNm.mk ?a1; (case a1 => exact qInvalidOperation)))
      (case x_DecodeError => (refine' L2.Px.XNm.mk ?a1; (case a1 => exact qDecodeError)))
      (case x_NotationError => (refine' L2.Px.XNm.mk ?a1; (case a1 => exact qNotationError)))
      (case x_TooLong => (refine' L2.Px.XNm.mk ?a1; (case a1 => exact qTooLong)))
      (case x_InvalidPlace => (refine' L2.Px.XPl.mk ?a1 ?a2 ?a3 ?a4 ?a5; (case a1 => exact qInvalidPlace); (case a2 => kernel_rfl); (case a3 => k_is); (case a4 => k_is); (case a5 => k_is)))
      (case x_InvalidLetter => (refine' L2.Px.XPl.mk ?a1 ?a2 ?a3 ?a4 ?a5; (case a1 => exact qInvalidLetter); (case a2 => kernel_rfl); (case a3 => k_is); (case a4 => k_is); (case a5 => k_is)))
      (case x_Contradiction => (refine' L2.Px.XPl.mk ?a1 ?a2 ?a3 ?a4 ?a5; (case a1 => exact qContradiction); (case a2 => kernel_rfl); (case a3 => k_is); (case a4 => k_is); (case a5 => k_is)))
      (case x_InvalidCount => (refine' L2.Px.XNm.mk ?a1; (case a1 => exact qInvalidCount)))
      (case z_InvalidPlace => (refine' L2.Px.RzC.mk ?a1 ?a2 ?a3 ?a4; (case a1 => (refine' L2.Px.excC_mk ?e0 ?e1 ?e2 ?e3 ?e4 ?e5 ?e6 ?e7; (case e0 => k_is); (case e1 => k_is); (case e2 => k_is); (case e3 => k_is); (case e4 => k_is); (case e5 => k_is); (case e6 => k_is); (case e7 => k_is))); (case a2 => (refine' L2.Px.exm_mk ?e0 ?e1 ?e2 ?e3; (case e0 => k_is); (case e1 => k_is); (case e2 => k_is); (case e3 => k_is))); (case a3 => (refine' L2.Px.kit_ve ?e0; (case e0 => k_is))); (case a4 => (refine' L2.Px.kit_all9 ?k0 ?k1 ?k2 ?k3 ?k4 ?k5 ?k6 ?k7 ?k8; (case k0 => (refine' L2.Px.kit_cls2 ?a0 ?b1 ?b2 ?b3; (case a0 => decide); (case b1 => k_is); (case b2 => k_is); (case b3 => k_is))); (case k1 => (refine' L2.Px.kit_cls2 ?a0 ?b1 ?b2 ?b3; (case a0 => decide); (case b1 => k_is); (case b2 => k_is); (case b3 => k_is))); (case k2 => (refine' L2.Px.kit_cls2 ?a0 ?b1 ?b2 ?b3; (case a0 => decide); (case b1 => k_is); (case b2 => k_is); (case b3 => k_is))); (case k3 => (refine' L2.Px.kit_cls2 ?a0 ?b1 ?b2 ?b3; (case a0 => decide); (case b1 => k_is); (case b2 => k_is); (case b3 => k_is))); (case k4 => (refine' L2.Px.kit_cls2 ?a0 ?b1 ?b2 ?b3; (case a0 => decide); (case b1 => k_is); (case b2 => k_is); (case b3 => k_is))); (case k5 => exact L2.Px.kit_self); (case k6 => (refine' L2.Px.kit_cls2 ?a0 ?b1 ?b2 ?b3; (case a0 => decide); (case b1 => k_is); (case b2 => k_is); (case b3 => k_is))); (case k7 => (refine' L2.Px.kit_cls2 ?a0 ?b1 ?b2 ?b3; (case a0 => decide); (case b1 => k_is); (case b2 => k_is); (case b3 => k_is))); (case k8 => (refine' L2.Px.kit_cls2 ?a0 ?b1 ?b2 ?b3; (case a0 => decide); (case b1 => k_is); (case b2 => k_is); (case b3 => k_is)))))))
      (case z_InvalidLetter => (refine' L2.Px.RzC.mk ?a1 ?a2 ?a3 ?a4; (case a1 => (refine' L2.Px.excC_mk ?e0 ?e1 ?e2 ?e3 ?e4 ?e5 ?e6 ?e7; (case e0 => k_is); (case e1 => k_is); (case e2 => k_is); (case e3 => k_is); (case e4 => k_is); (case e5 => k_is); (case e6 => k_is); (case e7 => k_is))); (case a2 => (refine' L2.Px.exm_mk ?e0 ?e1 ?e2 ?e3; (case e0 => k_is); (case e1 => k_is); (case e2 => k_is); (case e3 => k_is))); (case a3 => (refine' L2.Px.kit_ve ?e0; (case e0 => k_is))); (case a4 => (refine' L2.Px.kit_all9 ?k0 ?k1 ?k2 ?k3 ?k4 ?k5 ?k6 ?k7 ?k8; (case k0 => (refine' L2.Px.kit_cls2 ?a0 ?b1 ?b2 ?b3; (case a0 => decide); (case b1 => k_is); (case b2 => k_is); (case b3 => k_is))); (case k1 => (refine' L2.Px.kit_cls2 ?a0 ?b1 ?b2 ?b3; (case a0 => decide); (case b1 => k_is); (case b2 => k_is); (case b3 => k_is))); (case k2 => (refine' L2.Px.kit_cls2 ?a0 ?b1 ?b2 ?b3; (case a0 => decide); (case b1 => k_is); (case b2 => k_is); (case b3 => k_is))); (case k3 => (refine' L2.Px.kit_cls2 ?a0 ?b1 ?b2 ?b3; (case a0 => decide); (case b1 => k_is); (case b2 => k_is); (case b3 => k_is))); (case k4 => (refine' L2.Px.kit_cls2 ?a0 ?b1 ?b2 ?b3; (case a0 => decide); (case b1 => k_is); (case b2 => k_is); (case b3 => k_is))); (case k5 => (refine' L2.Px.kit_cls2 ?a0 ?b1 ?b2 ?b3; (case a0 => decide); (case b1 => k_is); (case b2 => k_is); (case b3 => k_is))); (case k6 => exact L2.Px.kit_self); (case k7 => (refine' L2.Px.kit_cls2 ?a0 ?b1 ?b2 ?b3; (case a0 => decide); (case b1 => k_is); (case b2 => k_is); (case b3 => k_is))); (case k8 => (refine' L2.Px.kit_cls2 ?a0 ?b1 ?b2 ?b3; (case a0 => decide); (case b1 => k_is); (case b2 => k_is); (case b3 => k_is)))))))
      (case z_Contradiction => (refine' L2.Px.RzC.mk ?a1 ?a2 ?a3 ?a4; (case a1 => (refine' L2.Px.excC_mk ?e0 ?e1 ?e2 ?e3 ?e4 ?e5 ?e6 ?e7; (case e0 => k_is); (case e1 => k_is); (case e2 => k_is); (case e3 => k_is); (case e4 => k_is); (case e5 => k_is); (case e6 => k_is); (case e7 => k_is))); (case a2 => (refine' L2.Px.exm_mk ?e0 ?e1 ?e2 ?e3; (case e0 => k_is); (case e1 => k_is); (case e2 => k_is); (case e3 => k_is))); (case a3 => (refine' L2.Px.kit_ve ?e0; (case e0 => k_is))); (case a4 => (refine' L2.Px.kit_all9 ?k0 ?k1 ?k2 ?k3 ?k4 ?k5 ?k6 ?k7 ?k8; (case k0 => (refine' L2.Px.kit_cls2 ?a0 ?b1 ?b2 ?b3; (case a0 => decide); (case b1 => k_is); (case b2 => k_is); (case b3 => k_is))); (case k1 => (refine' L2.Px.kit_cls2 ?a0 ?b1 ?b2 ?b3; (case a0 => decide); (case b1 => k_is); (case b2 => k_is); (case b3 => k_is))); (case k2 => (refine' L2.Px.kit_cls2 ?a0 ?b1 ?b2 ?b3; (case a0 => decide); (case b1 => k_is); (case b2 => k_is); (case b3 => k_is))); (case k3 => (refine' L2.Px.kit_cls2 ?a0 ?b1 ?b2 ?b3; (case a0 => decide); (case b1 => k_is); (case b2 => k_is); (case b3 => k_is))); (case k4 => (refine' L2.Px.kit_cls2 ?a0 ?b1 ?b2 ?b3; (case a0 => decide); (case b1 => k_is); (case b2 => k_is); (case b3 => k_is))); (case k5 => (refine' L2.Px.kit_cls2 ?a0 ?b1 ?b2 ?b3; (case a0 => decide); (case b1 => k_is); (case b2 => k_is); (case b3 => k_is))); (case k6 => (refine' L2.Px.kit_cls2 ?a0 ?b1 ?b2 ?b3; (case a0 => decide); (case b1 => k_is); (case b2 => k_is); (case b3 => k_is))); (case k7 => exact L2.Px.kit_self); (case k8 => (refine' L2.Px.kit_cls2 ?a0 ?b1 ?b2 ?b3; (case a0 => decide); (case b1 => k_is); (case b2 => k_is); (case b3 => k_is)))))))
      (case zs_Contradiction => (refine' L2.Px.exm_mk ?e0 ?e1 ?e2 ?e3; (case e0 => k_is); (case e1 => k_is); (case e2 => k_is); (case e3 => k_is)))
      (case t_x_law_learned => (refine' L2.Px.tabC_mk ?l ?v ?hd ?no; (case l => k_is); (case v => rfl); (case hd => kernel_rfl); (case no => kernel_rfl)))
      (case t_law => (refine' L2.Px.tabC_mk ?l ?v ?hd ?no; (case l => k_is); (case v => rfl); (case hd => kernel_rfl); (case no => kernel_rfl)))
      (case na_Part_start => (unfold L2.NoAttr; k_is))
      (case na_Part_length => (unfold L2.NoAttr; k_is))
      (case na_Part_is_typed => (unfold L2.NoAttr; k_is))
      (case na_Part_first => (unfold L2.NoAttr; k_is))
      (case na_Part_last => (unfold L2.NoAttr; k_is))
      (case na_Text_made => (unfold L2.NoAttr; k_is))
      (case na_Text_typed => (unfold L2.NoAttr; k_is))
      (case na_Text_parts => (unfold L2.NoAttr; k_is))
      (case na_Text_total => (unfold L2.NoAttr; k_is))
      (case na_Editor_present => (unfold L2.NoAttr; k_is))
      (case na_Editor_done => (unfold L2.NoAttr; k_is))
      (case na_Editor_undone => (unfold L2.NoAttr; k_is))
      (case na_Editor_is_open => (unfold L2.NoAttr; k_is))
      (case na_Editor_kept_present => (unfold L2.NoAttr; k_is))
      (case na_Editor_kept_done => (unfold L2.NoAttr; k_is))
      (case na_Editor_kept_undone => (unfold L2.NoAttr; k_is))
      (case na_KeyReader_source_text => (unfold L2.NoAttr; k_is))
      (case na_KeyReader_heads => (unfold L2.NoAttr; k_is))
      (case na_KeyReader_letters => (unfold L2.NoAttr; k_is))
      (case na_KeyReader_seen => (unfold L2.NoAttr; k_is))
      (case k_LETTERS => (refine' L2.Px.const_str KX G ?a; (case a => k_is)))
      (case k_MAX_WORD => first | exact L2.Px.loose_int XL (.head _) | exact L2.Px.loose_int XL (.tail _ (.head _)) | exact L2.Px.loose_int XL (.tail _ (.tail _ (.head _))) | exact L2.Px.loose_int XL (.tail _ (.tail _ (.tail _ (.head _)))) | (refine' L2.Px.const_int KX G ?a; (case a => k_is)))
      (case k_MAX_STEPS => first | exact L2.Px.loose_int XL (.head _) | exact L2.Px.loose_int XL (.tail _ (.head _)) | exact L2.Px.loose_int XL (.tail _ (.tail _ (.head _))) | exact L2.Px.loose_int XL (.tail _ (.tail _ (.tail _ (.head _)))) | (refine' L2.Px.const_int KX G ?a; (case a => k_is)))
      (case k_MAX_TIMES => first | exact L2.Px.loose_int XL (.head _) | exact L2.Px.loose_int XL (.tail _ (.head _)) | exact L2.Px.loose_int XL (.tail _ (.tail _ (.head _))) | exact L2.Px.loose_int XL (.tail _ (.tail _ (.tail _ (.head _)))) | (refine' L2.Px.const_int KX G ?a; (case a => k_is)))
      (case k_MAX_SIZE_texts => first | exact L2.Px.loose_int XL (.head _) | exact L2.Px.loose_int XL (.tail _ (.head _)) | exact L2.Px.loose_int XL (.tail _ (.tail _ (.head _))) | exact L2.Px.loose_int XL (.tail _ (.tail _ (.tail _ (.head _)))) | (refine' L2.Px.const_int KX G ?a; (case a => k_is)))
      (case n_isinstance => (refine' PySem.W.mg_none_of KX G ?a; (case a => k_is)))
      (case n_int => (refine' PySem.W.mg_none_of KX G ?a; (case a => k_is)))
      (case n_bool => (refine' PySem.W.mg_none_of KX G ?a; (case a => k_is)))
      (case n_str => (refine' PySem.W.mg_none_of KX G ?a; (case a => k_is)))
      (case n_len => (refine' PySem.W.mg_none_of KX G ?a; (case a => k_is)))
      (case n_all => (refine' PySem.W.mg_none_of KX G ?a; (case a => k_is)))
      (case n_tuple => (refine' PySem.W.mg_none_of KX G ?a; (case a => k_is)))
      (case n_list => (refine' PySem.W.mg_none_of KX G ?a; (case a => k_is)))
      (case n_range => (refine' PySem.W.mg_none_of KX G ?a; (case a => k_is)))
      (case n_enumerate => (refine' PySem.W.mg_none_of KX G ?a; (case a => k_is)))
      (case n_min => (refine' PySem.W.mg_none_of KX G ?a; (case a => k_is)))
      (case n_max => (refine' PySem.W.mg_none_of KX G ?a; (case a => k_is)))
      (case n_sorted => (refine' PySem.W.mg_none_of KX G ?a; (case a => k_is)))
      (case n_dict => (refine' PySem.W.mg_none_of KX G ?a; (case a => k_is)))
      (case n_ValueError => (refine' PySem.W.mg_none_of KX G ?a; (case a => k_is)))
    (case hx_x_law_learned => kernel_rfl)
    (case hx_law => kernel_rfl)
    (case dp_x_law_learned_law => decide)
