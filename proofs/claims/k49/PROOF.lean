import PyProof.Rows.All
import Wide.All
import OpenK.AllK
import Wide.FinOn
import KE.KOpsOwn
import HandS.ForMost
import HandS.More
import HandS.Star
import HandS.ClsMeth
import HandS.Property
import HandS.IsInst
import HandS.SetKeys
import HandS.Style
import KE.GoesMore
import PyProof.EnumMake
import HandS.Text
import PyProof.InstNe
import HandS.Conv
import HandS.TupAny
import HandS.Lambda
import HandS.Nested
import HandS.EndTab
import HandS.ForExc
import HandS.ExcInit
import HandS.ExcIs
import HandS.ExcField
import HandS.TryOnly
import KE.KDflt
import KE.KExcIs
import PyProof.Rows.CountFlat
import HandS.FStr
import HandS.EndOwn
import HandS.WideBits
import HandS.GenYield
import HandS.GenCall
import HandS.GenList
import HandS.DictComp
import HandS.SetFor
import HandS.Strs
import HandS.SortInts
import HandS.Defaults
import HandS.NoneIn
import PyProof.StrOps2
import KE.KDictZip
import KE.KRevSl
import PyProof.ListStr
import KE.KUnpackStar
import HandS.Finally
import HandS.TryElse
import HandS.HeadHook3
import PyProof.Rows.StrIntSpec
import PyProof.FString3
import HandS.RaiseMore
import HandS.BytesMake
import HandS.WordsDict
import HandS.Replace
import HandS.ToBytes
import HandS.SetTxt0
import PyProof.Rows.SortShellAny
import HandS.ListItems
import KE.OsRunLaw
import KE.HD2
import KE.KNestM
import PySem.Challenge.RW_pastekeys_k49_bytes_of_texts
set_option Elab.async false
set_option linter.all false
set_option maxRecDepth 100000
namespace L2.Px
open PySem PySem.W PySem.Calls PyProof.Rows HeadRun
/-- the objects and the tables that the hook looks at, off the tree -/
noncomputable def obT (as ts : List Addr) (s : SharedT) : List (Option Obj) × List (Option Obj) := (as.map (getT s), ts.map (getT s))
theorem obT_eq {K : Params → Frag} {as : List Addr} {e : ∀ P, as = (K P).map (·.1)} {ts : List Addr} (s : SharedT) : obT as ts s = (kmHook K as e ts).obs s.abs := by
  have h : ∀ l : List Addr, l.map (getT s) = l.map s.abs.heap.get? := fun l => List.map_congr_left fun a _ => getT_eq s a
  show (as.map (getT s), ts.map (getT s)) = (as.map s.abs.heap.get?, ts.map s.abs.heap.get?)
  rw [h, h]
/-- the run alone, and one look at its end: three looks are three kernel runs (one run with all looks wants over 12 GB) -/
def RunL {α : Type} (r : OpenRow) (M : Nat) (row : String) (b : Bool) (f : World → SharedT → α) (v : World → α) : Prop := ∀ (w : World) (os : OsState),
  (endF (stepQ (denQ tabQ) r.prog (w.withFollow row b)) M r.prog (w.withFollow row b) os).map (f (w.withFollow row b)) = some (v (w.withFollow row b))
def Run1 (r : OpenRow) (M : Nat) (row : String) (b : Bool) : Prop := RunL r M row b (fun w s => looksF r.prog (boot_heap w.params) s.abs) (fun _ => true)
def hd4 {α1 α2 α3 α4 β : Type} (v : α1 × α2 × α3 × α4 × β) : α1 × α2 × α3 × α4 := (v.1, v.2.1, v.2.2.1, v.2.2.2.1)
def tl4 {α1 α2 α3 α4 β : Type} (v : α1 × α2 × α3 × α4 × β) : β := v.2.2.2.2
def Run2 (r : OpenRow) (q : Program) (M : Nat) (loose : List PySem.Str) (row : String) (b : Bool) : Prop := RunL r M row b (fun _ s => hd4 (seenQ q loose (importedModules r.prog.main.body) (fun s => xlAt q [] s && recOk r.toRowW.records s) s.abs)) (fun _ => hd4 (openGood q loose))
def Run4 (r : OpenRow) (q : Program) (M : Nat) (loose : List PySem.Str) (row : String) (b : Bool) : Prop := RunL r M row b (fun _ s => tl4 (seenQ q loose (importedModules r.prog.main.body) (fun s => xlAt q [] s && recOk r.toRowW.records s) s.abs)) (fun _ => tl4 (openGood q loose))
def Run3 (r : OpenRow) (K : Params → Frag) (as ts : List Addr) (M : Nat) (row : String) (b : Bool) : Prop := RunL r M row b (fun _ s => obT as ts s) (fun w => ((K w.params).map fun p => some p.2, ts.map fun _ => some (tabObj #[])))
def RunB (r : OpenRow) (q : Program) (K : Params → Frag) (as ts : List Addr) (M : Nat) (loose : List PySem.Str) (row : String) (b : Bool) : Prop := ∀ (w : World) (os : OsState),
  (endF (stepQ (denQ tabQ) r.prog (w.withFollow row b)) M r.prog (w.withFollow row b) os).map (fun s => (looksF r.prog (boot_heap (w.withFollow row b).params) s.abs, seenQ q loose (importedModules r.prog.main.body) (fun s => xlAt q [] s && recOk r.toRowW.records s) s.abs, obT as ts s)) =
    some (true, openGood q loose, ((K (w.withFollow row b).params).map fun p => some p.2, ts.map fun _ => some (tabObj #[])))
theorem map3 {σ α β γ : Type} {o : Option σ} {f : σ → α} {g : σ → β} {h : σ → γ} {a : α} {b : β} {c : γ} (e1 : o.map f = some a) (e2 : o.map g = some b) (e3 : o.map h = some c) : o.map (fun s => (f s, g s, h s)) = some (a, b, c) := by
  cases o with
  | none => cases e1
  | some s =>
    simp only [Option.map_some, Option.some.injEq] at e1 e2 e3 ⊢
    rw [e1, e2, e3]
theorem map2 {σ β : Type} {α1 α2 α3 α4 : Type} {o : Option σ} {f : σ → α1 × α2 × α3 × α4 × β} {v : α1 × α2 × α3 × α4 × β} (e1 : o.map (fun s => hd4 (f s)) = some (hd4 v)) (e2 : o.map (fun s => tl4 (f s)) = some (tl4 v)) : o.map f = some v := by
  cases o with
  | none => cases e1
  | some s =>
    obtain ⟨v1, v2, v3, v4, v5⟩ := v
    simp only [Option.map_some, Option.some.injEq] at e1 e2 ⊢
    generalize f s = u at e1 e2 ⊢
    obtain ⟨u1, u2, u3, u4, u5⟩ := u
    simp only [hd4, tl4, Prod.mk.injEq] at e1 e2 ⊢
    exact ⟨e1.1, e1.2.1, e1.2.2.1, e1.2.2.2, e2⟩
theorem run_map2 {r : OpenRow} {M : Nat} {row : String} {b : Bool} {α1 α2 α3 α4 β : Type} {f : World → SharedT → α1 × α2 × α3 × α4 × β} {v : World → α1 × α2 × α3 × α4 × β} (h2 : RunL r M row b (fun w s => hd4 (f w s)) (fun w => hd4 (v w))) (h4 : RunL r M row b (fun w s => tl4 (f w s)) (fun w => tl4 (v w))) : RunL r M row b f v :=
  fun w os => map2 (h2 w os) (h4 w os)
theorem run_map3 {r : OpenRow} {M : Nat} {row : String} {b : Bool} {α β γ : Type} {f : World → SharedT → α} {g : World → SharedT → β} {h : World → SharedT → γ} {u : World → α} {v : World → β} {t : World → γ} (h1 : RunL r M row b f u) (h2 : RunL r M row b g v) (h3 : RunL r M row b h t) : RunL r M row b (fun w s => (f w s, g w s, h w s)) (fun w => (u w, v w, t w)) :=
  fun w os => map3 (h1 w os) (h2 w os) (h3 w os)
theorem runB_of {r : OpenRow} {q : Program} {K : Params → Frag} {as ts : List Addr} {M : Nat} {loose : List PySem.Str} {row : String} {b : Bool} (h1 : Run1 r M row b) (h2 : Run2 r q M loose row b) (h4 : Run4 r q M loose row b) (h3 : Run3 r K as ts M row b) : RunB r q K as ts M loose row b :=
  run_map3 h1 (run_map2 h2 h4) h3
theorem head_km {r : OpenRow} {q : Program} {K : Params → Frag} {as ts : List Addr} {ek : ∀ P, as = (K P).map (·.1)} {M : Nat} {loose : List PySem.Str} {d : DefRec} {kwd : List (PySem.Str × PySem.Expr)} (row : String)
    (e : opening r.prog = plainProg r.prog.main.scope.names) (f : ∀ s, fenceModules? r.prog s = some s) (run0 : RunB r q K as ts M loose row false) (run1 : RunB r q K as ts M loose row true)
    (hdef : defOf q r.name = some (d, kwd)) (hp : r.prog.theDef r.name = some (d.params, d.body, d.scope)) (hk : kwWritten? d.params.kwonlyargs d.params.kw_defaults = some kwd)
    (hwr : (!r.writes || r.records.isEmpty) = true) (k1 : r.wellSaid = true) (ok : (chainsOk q && opensWell r.prog && (frees r.toRowW && r.within.isEmpty)) = true) (hb : r.prog.bare) (hw : r.toRowW.promised)
    (call : WalkO q loose (XL q []) (kmHook K as ek ts).says r.toRowW d kwd fun f vs => PySem.call f vs) : r.Holds := by
  refine head_any (H := kmHook K as ek ts) (ob := obT as ts) (M := M) obT_eq e f (fun w os => ?_) hdef hp hk hwr k1 ok hb hw call
  have z : ∀ b, w.params.followText row = b → w.withFollow row b = w := fun b hb => by rw [← hb]; exact World.withFollow_self w row
  cases hb : w.params.followText row with
  | false =>
    have q := run0 w os
    rw [z _ hb] at q
    exact q
  | true =>
    have q := run1 w os
    rw [z _ hb] at q
    exact q
end L2.Px
namespace L2.Px
open PySem PySem.W PyProof.Rows
def topH (i : Nat) : Stmt := PySem.Challenge.pw_pastekeys_k49_bytes_of_texts.main.body.getD i (.Pass ⟨0, 0, 0, 0⟩)
noncomputable def qv : Program := { PySem.Challenge.pw_pastekeys_k49_bytes_of_texts with main := { PySem.Challenge.pw_pastekeys_k49_bytes_of_texts.main with body := [topH 0, topH 1, topH 2, topH 3, topH 4, topH 5, topH 6, topH 7, topH 8, topH 9, topH 10, topH 11, topH 12, topH 13, topH 14, topH 15, topH 16, topH 17, topH 18, topH 21, topH 22, topH 23, topH 24, topH 25, topH 27, topH 28, topH 29, topH 30, topH 31, topH 32, topH 33, topH 34, topH 35, topH 36, topH 37, topH 38, topH 39, topH 40, topH 41, topH 42, topH 43, topH 44, topH 45, topH 46, topH 48, topH 50, topH 51, topH 52, topH 53, topH 54, topH 55, topH 56, topH 57, topH 58, topH 59, topH 60, topH 61, topH 62, topH 63, topH 64, topH 65, topH 66] } }
def p0 : Params := { strHash := fun _ => 0, shareClass := fun a => a, mergeTok := fun t => t, idOf := fun _ => 0, idOfShared := fun _ _ => 0, followText := fun _ => false, idOfImm := fun _ => 0 }
local macro_rules | `(tactic| o_head (kmHook $K:term $as:term $e:term $ts:term)) => `(tactic| assumption)
set_option maxRecDepth 100000 in
set_option maxHeartbeats 0 in
theorem hdK (h : PySem.Challenge.rw_pastekeys_k49_bytes_of_texts.row.Holds) : PySem.Challenge.rw_pastekeys_k49_bytes_of_texts.Holds := by
  w_on; o_law; k_head
set_option maxRecDepth 100000 in
set_option maxHeartbeats 0 in
theorem hd_as : ∀ P, (hdK.heap_39 p0).map (·.1) = (hdK.heap_39 P).map (·.1) := fun P => by kernel_rfl
set_option maxRecDepth 100000 in
set_option maxHeartbeats 0 in
theorem hd_a0 : Run1 PySem.Challenge.rw_pastekeys_k49_bytes_of_texts.row 15400 "special-get-raises" false := fun w os => by kernel_rfl
set_option maxRecDepth 100000 in
set_option maxHeartbeats 0 in
theorem hd_b0 : Run2 PySem.Challenge.rw_pastekeys_k49_bytes_of_texts.row qv 15400 [("MAX_TIMES" : PySem.Str), ("MAX_SIZE_texts" : PySem.Str), ("Text" : PySem.Str), ("ARGUMENTS" : PySem.Str), ("Editor" : PySem.Str)] "special-get-raises" false := fun w os => by kernel_rfl
set_option maxRecDepth 100000 in
set_option maxHeartbeats 0 in
theorem hd_d0 : Run4 PySem.Challenge.rw_pastekeys_k49_bytes_of_texts.row qv 15400 [("MAX_TIMES" : PySem.Str), ("MAX_SIZE_texts" : PySem.Str), ("Text" : PySem.Str), ("ARGUMENTS" : PySem.Str), ("Editor" : PySem.Str)] "special-get-raises" false := fun w os => by kernel_rfl
set_option maxRecDepth 100000 in
set_option maxHeartbeats 0 in
theorem hd_c0 : Run3 PySem.Challenge.rw_pastekeys_k49_bytes_of_texts.row hdK.heap_39 ((hdK.heap_39 p0).map (·.1)) [810] 15400 "special-get-raises" false := fun w os => by kernel_rfl
theorem hd_r0 : RunB PySem.Challenge.rw_pastekeys_k49_bytes_of_texts.row qv hdK.heap_39 ((hdK.heap_39 p0).map (·.1)) [810] 15400 [("MAX_TIMES" : PySem.Str), ("MAX_SIZE_texts" : PySem.Str), ("Text" : PySem.Str), ("ARGUMENTS" : PySem.Str), ("Editor" : PySem.Str)] "special-get-raises" false := runB_of hd_a0 hd_b0 hd_d0 hd_c0
set_option maxRecDepth 100000 in
set_option maxHeartbeats 0 in
theorem hd_a1 : Run1 PySem.Challenge.rw_pastekeys_k49_bytes_of_texts.row 15400 "special-get-raises" true := fun w os => by kernel_rfl
set_option maxRecDepth 100000 in
set_option maxHeartbeats 0 in
theorem hd_b1 : Run2 PySem.Challenge.rw_pastekeys_k49_bytes_of_texts.row qv 15400 [("MAX_TIMES" : PySem.Str), ("MAX_SIZE_texts" : PySem.Str), ("Text" : PySem.Str), ("ARGUMENTS" : PySem.Str), ("Editor" : PySem.Str)] "special-get-raises" true := fun w os => by kernel_rfl
set_option maxRecDepth 100000 in
set_option maxHeartbeats 0 in
theorem hd_d1 : Run4 PySem.Challenge.rw_pastekeys_k49_bytes_of_texts.row qv 15400 [("MAX_TIMES" : PySem.Str), ("MAX_SIZE_texts" : PySem.Str), ("Text" : PySem.Str), ("ARGUMENTS" : PySem.Str), ("Editor" : PySem.Str)] "special-get-raises" true := fun w os => by kernel_rfl
set_option maxRecDepth 100000 in
set_option maxHeartbeats 0 in
theorem hd_c1 : Run3 PySem.Challenge.rw_pastekeys_k49_bytes_of_texts.row hdK.heap_39 ((hdK.heap_39 p0).map (·.1)) [810] 15400 "special-get-raises" true := fun w os => by kernel_rfl
theorem hd_r1 : RunB PySem.Challenge.rw_pastekeys_k49_bytes_of_texts.row qv hdK.heap_39 ((hdK.heap_39 p0).map (·.1)) [810] 15400 [("MAX_TIMES" : PySem.Str), ("MAX_SIZE_texts" : PySem.Str), ("Text" : PySem.Str), ("ARGUMENTS" : PySem.Str), ("Editor" : PySem.Str)] "special-get-raises" true := runB_of hd_a1 hd_b1 hd_d1 hd_c1
end L2.Px
set_option Elab.async false
set_option linter.all false
set_option maxRecDepth 100000
set_option maxHeartbeats 1000000
namespace L2.Px
open PySem PySem.Spec PyProof.Rows StX
/-- the def named x keeps the promise sp -/
def GOk (P : Program) (w : World) (K : PySem.W.Frag) (mg : Str → Option Value) (base : Heap) (CX : CXT) (k : Nat) (x : Str) (sp : Sp) : Prop :=
  ∃ f, FnR P w K mg base CX k f sp ∧ mg x = some (.ref f) ∧ PySem.W.keepIn K (.ref f) = true
/-- the method m of the class at C keeps the promise sp -/
def MOk (P : Program) (w : World) (K : PySem.W.Frag) (mg : Str → Option Value) (base : Heap) (CX : CXT) (k : Nat) (C : Addr) (m : Str) (sp : Sp) : Prop :=
  ∃ f, FnR P w K mg base CX k f sp ∧ Meth K C m f
/-- a def of the top, as it stands -/
def DefG (K : PySem.W.Frag) (mg : Str → Option Value) (x : Str) (st : Stmt) (ps : List Str) : Prop :=
  ∃ f fd, Fun K x x st f fd ∧ mg x = some (.ref f) ∧ Binds K fd ps []
/-- a method of the class at C, as it stands -/
def DefM (K : PySem.W.Frag) (C : Addr) (m qual : Str) (st : Stmt) (ps : List Str) : Prop :=
  ∃ f fd, Fun K m qual st f fd ∧ Meth K C m f ∧ Binds K fd ps []
section
variable {P : Program} {w : World} {K : PySem.W.Frag} {mg : Str → Option Value} {base : Heap} {CX : CXT} {k : Nat} {f C : Addr} {fd : FuncData} {ps : List Str} {sp : Sp} {x m qual : Str} {st : Stmt}
theorem FnOk.toR (F : FnOk P w K mg base CX k f fd ps sp) (hb : Binds K fd ps []) : FnR P w K mg base CX k f sp := by
  intro A outer s H us vs Q E hr e0 r h
  have hl : (us ++ ([] : List Value)).length = ps.length := by rw [List.append_nil, ← r.length]; exact F.len _ _ _ _ h
  have kin : K.In s.heap := e0.mod.kin.keeps fun b o e => (e0.bs b o e).1
  have b1 := hb s us kin hl
  rw [List.append_nil] at b1
  exact F.run A outer s H ⟨us, []⟩ us vs Q E hr e0 b1 r h
theorem FnOk.toR1 {dvs : List V} {ds : List Value} (F : FnOk P w K mg base CX k f fd ps sp) (hb : Binds K fd ps ds) (hd : Vals dvs ds) : FnR P w K mg base CX k f (fun vs => sp (vs ++ dvs)) := by
  intro A outer s H us vs Q E hr e0 r h
  have r2 : Vals (vs ++ dvs) (us ++ ds) := r.append hd
  have hl : (us ++ ds).length = ps.length := by rw [← r2.length]; exact F.len _ _ _ _ h
  have kin : K.In s.heap := e0.mod.kin.keeps fun b o e => (e0.bs b o e).1
  exact F.run A outer s H ⟨us, []⟩ (us ++ ds) (vs ++ dvs) Q E hr e0 (hb s us kin hl) r2 h
theorem GOk.mono {j : Nat} (G : GOk P w K mg base CX j x sp) (h : j ≤ k) : GOk P w K mg base CX k x sp := let ⟨f, F, a, b⟩ := G; ⟨f, F.mono h, a, b⟩
theorem MOk.mono {j : Nat} (G : MOk P w K mg base CX j C m sp) (h : j ≤ k) : MOk P w K mg base CX k C m sp := let ⟨f, F, a⟩ := G; ⟨f, F.mono h, a⟩
/-- a def that no error leaves -/
theorem DefG.ok {N : List Str} (D : DefG K mg x st ps) (S : FnScope N ps (defScope st)) (len : ∀ vs H Q E, sp vs H Q E → vs.length = ps.length)
    (hbody : ∀ (f : Addr) (cdv : Value) (A : Around) (outer : List Env) (s : Shared) (H : Hp) (vs : List V) (Q : VK) (E : XK), Room k (A.deeper (envOfC x (defScope st) s.heap.objs.size f cdv)) → sp vs H Q E →
      ∃ t, PSs (cxOf CX0 P w K mg base N x (defScope st) f cdv A outer s H E).nox (defBody st) t ∧ t { nx := fun _ H' => Q .non H', rt := Q } (start N vs) H) : GOk P w K mg base CX0 (k + 1) x sp := by
  obtain ⟨f, fd, F, a, b⟩ := D
  exact ⟨f, FnOk.toR (F.ok S len fun cdv A outer s H vs Q E hr h => hbody f cdv A outer s H vs Q E hr h) b, a, F.kp⟩
theorem DefM.ok {N : List Str} (D : DefM K C m qual st ps) (S : FnScope N ps (defScope st)) (len : ∀ vs H Q E, sp vs H Q E → vs.length = ps.length)
    (hbody : ∀ (f : Addr) (cdv : Value) (A : Around) (outer : List Env) (s : Shared) (H : Hp) (vs : List V) (Q : VK) (E : XK), Room k (A.deeper (envOfC qual (defScope st) s.heap.objs.size f cdv)) → sp vs H Q E →
      ∃ t, PSs (cxOf CX0 P w K mg base N qual (defScope st) f cdv A outer s H E).nox (defBody st) t ∧ t { nx := fun _ H' => Q .non H', rt := Q } (start N vs) H) : MOk P w K mg base CX0 (k + 1) C m sp := by
  obtain ⟨f, fd, F, a, b⟩ := D
  exact ⟨f, FnOk.toR (F.ok S len fun cdv A outer s H vs Q E hr h => hbody f cdv A outer s H vs Q E hr h) b, a⟩
end
section
variable {X : Cx} {CX : CXT} {k : Nat} {C : Addr} {sp : Sp} {E : XK} {x m : Str} {e o : Expr} {es : List Expr} {te ta : TE} {t : TA} {p pos apos : Pos}
def tG (sp : Sp) (E : XK) (t : TA) : TE := fun σ H Q => t σ H fun vs H1 => sp vs H1 Q E
theorem pe_g (G : GOk X.prog X.w X.K X.mg X.base CX k x sp) (hr : Room k X.A) (hx : Passes CX X E) (ha : PA X (e :: es) t) (hg : Gl X x := by rfl) (hd : (x == ("__debug__" : Str)) = false := by decide)
    (he : starEach (e :: es) X.env = (false, eval e X.env) :: starEach es X.env := by rfl) (hpl : (backTo pos (starEach es X.env)).any (·.1) = false := by rfl) : PE X (.Call (.Name x p) (e :: es) [] pos) (tG sp E t) := by
  obtain ⟨f, F, hm, hk⟩ := G
  refine ⟨fun pins s σ H Q I h => ?_⟩
  refine wpAny_Call_Name_kw (ld_glob I hg hm ?_ hd)
  refine PySem.W.callWith_K (h₀ := X.base) I.ok.mod.kin hk (thn (ha.run pos pins s σ H _ I h) fun us s1 ⟨vs, H1, I1, r, q⟩ => ⟨I1.kIn, ?_⟩) he hpl
  exact wpAny_call (run_fnR F hr hx I1 r q)
/-- an instance of C that has no attribute m -/
def InsM (H : Hp) (a C : Addr) (m : Str) : Prop := ∃ dx fs, H a = some (.ins C dx fs) ∧ fs.lookup m = none
def tM (C : Addr) (m : Str) (sp : Sp) (E : XK) (ta : TE) (t : TA) : TE := fun σ H Q => ta σ H fun x H1 => ∃ a, x = .ref a ∧ InsM H1 a C m ∧ t σ H1 fun vs H2 => sp (x :: vs) H2 Q E
theorem pe_m {pl : Sem Bool} (he : PE X o ta) (c : Cls X.K C) (G : MOk X.prog X.w X.K X.mg X.base CX k C m sp) (hr : Room k X.A) (hx : Passes CX X E) (ha : PA X (e :: es) t)
    (hst : starEach (e :: es) X.env = (false, eval e X.env) :: starEach es X.env := by rfl) (hpl : (backTo pos (starEach es X.env)).any (·.1) = false := by rfl)
    (ht : eval (.Call (.Attribute o m apos) (e :: es) [] pos) X.env = (do
      let ov ← eval o X.env
      standAt apos.atName
      let (f, first) ← holding [ov] (getMethod ov m pl)
      callWith pos f first (backTo pos (starEach (e :: es) X.env)) (backToKw pos (keywordEach [] X.env))) := by rfl) :
    PE X (.Call (.Attribute o m apos) (e :: es) [] pos) (tM C m sp E ta t) := by
  obtain ⟨f, F, hm⟩ := G
  refine ⟨fun pins s σ H Q I h => ?_⟩
  refine PySem.W.methodCall_KW (pl := pl) (thn (he.run pins s σ H _ I h) fun u s1 ⟨x, H1, I1, rx, a, ex, ⟨dx, fs, ea, l⟩, q⟩ => ?_) ht
  subst ex
  obtain rfl : u = Value.ref a := rx
  refine getmeth_ok I1 ea c hm l ?_
  refine PySem.W.callWith_K (first := [.ref a]) (h₀ := X.base) I.ok.mod.kin hm.kp (thn (ha.run pos pins s1 σ H1 _ I1 q) fun us s2 ⟨vs, H2, I2, r, q2⟩ => ⟨I2.kIn, ?_⟩) hst hpl
  exact wpAny_call (run_fnR (us := .ref a :: us) (vs := .ref a :: vs) F hr hx I2 (.cons rfl r) q2)
theorem pe_m0 {pl : Sem Bool} (he : PE X o ta) (c : Cls X.K C) (G : MOk X.prog X.w X.K X.mg X.base CX k C m sp) (hr : Room k X.A) (hx : Passes CX X E)
    (ht : eval (.Call (.Attribute o m apos) [] [] pos) X.env = (do
      let ov ← eval o X.env
      standAt apos.atName
      let (f, first) ← holding [ov] (getMethod ov m pl)
      callWith pos f first (backTo pos (starEach [] X.env)) (backToKw pos (keywordEach [] X.env))) := by rfl) :
    PE X (.Call (.Attribute o m apos) [] [] pos) (tM C m sp E ta tNil) := by
  obtain ⟨f, F, hm⟩ := G
  refine ⟨fun pins s σ H Q I h => ?_⟩
  refine PySem.W.methodCall_KW (pl := pl) (thn (he.run pins s σ H _ I h) fun u s1 ⟨x, H1, I1, rx, a, ex, ⟨dx, fs, ea, l⟩, q⟩ => ?_) ht
  subst ex
  obtain rfl : u = Value.ref a := rx
  refine getmeth_ok I1 ea c hm l ?_
  exact PySem.W.callWith_K0 (first := [.ref a]) I1.kIn hm.kp (wpAny_call (run_fnR (us := [.ref a]) (vs := [.ref a]) F hr hx I1 (.cons rfl .nil) q))
/-- the class at C is made by an __init__ that keeps sp -/
def KOk (P : Program) (w : World) (K : PySem.W.Frag) (mg : Str → Option Value) (base : Heap) (CX : CXT) (k : Nat) (C : Addr) (sp : Sp) : Prop :=
  ∃ f, FnR P w K mg base CX k f sp ∧ Mk K C f
theorem pe_k (G : KOk X.prog X.w X.K X.mg X.base CX k C sp) (hr : Room (k + 1) X.A) (hm : X.mg x = some (.ref C)) (hx : Passes CX X E) (ha : PA X (e :: es) t) (hg : Gl X x := by rfl) (hdb : (x == ("__debug__" : Str)) = false := by decide)
    (he : starEach (e :: es) X.env = (false, eval e X.env) :: starEach es X.env := by rfl) (hpl : (backTo pos (starEach es X.env)).any (·.1) = false := by rfl) : PE X (.Call (.Name x p) (e :: es) [] pos) (tMakeR C sp E t) :=
  let ⟨_, F, M⟩ := G
  pe_makeR M F hr hg hm hx ha hdb he hpl
/-- C(*y), C by any name -/
def tMakeS (K : PySem.W.Frag) (C : Addr) (sp : Sp) (E : XK) (tf te : TE) : TE := fun σ H Q => tf σ H fun c H0 => c = V.ref C ∧ te σ H0 fun y H1 => ∃ a xs, y = V.ref a ∧ (SqT K H1 a xs ∨ SqL K H1 a xs) ∧
  ∀ x dx, H1 x = Option.none → H1 dx = Option.none → dx ≠ x → sp (V.ref x :: xs) (upd (upd H1 dx (.own x)) x (.ins C dx [])) (fun v H2 => v = .non ∧ Q (.ref x) H2) E
theorem pe_ks {tf : TE} {sp_ : Pos} (hf : PE X (.Name x p) tf) (G : KOk X.prog X.w X.K X.mg X.base CX k C sp) (hr : Room (k + 1) X.A) (hx : Passes CX X E) (he : PE X e te)
    (hst : starEach [.Starred e sp_] X.env = [(true, eval e X.env)] := by rfl) : PE X (.Call (.Name x p) [.Starred e sp_] [] pos) (tMakeS X.K C sp E tf te) := by
  obtain ⟨f, F, M⟩ := G
  refine ⟨fun pins s σ H Q I h => ?_⟩
  refine wpAny_Call_Name_kw (thn (hf.run pins s σ H _ I h) fun u0 s0 ⟨c, H0, I0, rc, ec, q0⟩ => ?_)
  subst ec
  obtain rfl : u0 = Value.ref C := rc
  refine PySem.W.callWith_S (h₀ := X.base) I.ok.mod.kin M.kp (thn (he.run pins s0 σ H0 _ I0 q0) fun v s1 ⟨y, H1, I1, ry, a, xs, ey, hxs, q⟩ => ?_) hst
  subst ey
  obtain rfl : v = Value.ref a := ry
  exact star_any I1 hxs fun us s2 I2 rv => ⟨I2.kIn, run_makeR M F hr hx I2 rv q⟩
end
section
variable {X : Cx} {CX : CXT} {k : Nat} {C f : Addr} {sp : Sp} {E : XK}
def InsA (H : Hp) (a C : Addr) : Prop := ∃ dx fs, H a = some (.ins C dx fs)
theorem InsA.at {pins : List (Addr × Obj)} {σ : St} {H : Hp} {s : Shared} {a : Addr} (I : Inv X pins σ H s) (h : InsA H a C) : ∃ ox od, PySem.W.InstAt s.heap a ox C od := by
  obtain ⟨dx, fs, h⟩ := h
  obtain ⟨mA, O, _⟩ := ins_get I.hok h
  obtain ⟨od, J, _⟩ := O.look
  exact ⟨_, _, J⟩
def rOwn (C : Addr) (sp : Sp) (E : XK) : R2 := fun x y H Q => ∃ a b, x = .ref a ∧ y = .ref b ∧ InsA H a C ∧ InsA H b C ∧ sp [x, y] H Q E
def rOwnI (C : Addr) (sp : Sp) (E : XK) : R2 := fun x y H Q => ∃ a i, x = .ref a ∧ y = .int i ∧ InsA H a C ∧ sp [x, y] H Q E
def tIxOwn (C : Addr) (sp : Sp) (E : XK) (ta tb : TE) : TE := fun σ H Q => ta σ H fun x H1 => tb σ H1 fun y H2 => ∃ a, x = .ref a ∧ InsA H2 a C ∧ sp [x, y] H2 Q E
end
end L2.Px
set_option Elab.async false
set_option linter.all false
set_option maxRecDepth 100000
set_option maxHeartbeats 1000000
namespace L2.Px
open PySem PySem.Spec PyProof.Rows StX
section
variable {X : Cx}
abbrev MQ := List (Str ⊕ Nat)
/-- the sub-patterns of a sequence: written texts and names -/
inductive PatEach (X : Cx) : List Pattern → MQ → Prop
  | nil : PatEach X [] []
  | val {z : Str} {k : Nat} {c pp : Pos} {ps : List Pattern} {qs : MQ} (h : PatEach X ps qs) : PatEach X (.MatchValue (.Constant (.str z) k c) pp :: ps) (.inl z :: qs)
  | cap {x : Str} {i : Nat} {pp : Pos} {ps : List Pattern} {qs : MQ} (h : X.N[i]? = some x ∧ Loc X.env.scope x ∧ (X.fn x = true ∨ X.env.scope.names.lookup x = some .local)) (h2 : PatEach X ps qs) : PatEach X (.MatchAs none (some x) pp :: ps) (.inr i :: qs)
def mBind : MQ → List V → Option (List (Nat × V))
  | .inl z :: qs, v :: vs => if v = .str z then mBind qs vs else none
  | .inr i :: qs, v :: vs => (mBind qs vs).map ((i, v) :: ·)
  | _, _ => some []
def scalOk : MQ → List V → Prop
  | .inl z :: qs, v :: vs => scal v (.str z) = true ∧ (v = .str z → scalOk qs vs)
  | .inr _ :: qs, _ :: vs => scalOk qs vs
  | _, _ => True
def setAll : St → List (Nat × V) → St
  | σ, [] => σ
  | σ, (i, v) :: bs => setAll (σ.set i (some v)) bs
/-- the names' values, as the matching hands them on -/
def BindsAre (X : Cx) : List (Nat × V) → List (Str × Value) → Prop := Paired fun p q => (X.N[p.1]? = some q.1 ∧ Loc X.env.scope q.1 ∧ (X.fn q.1 = true ∨ X.env.scope.names.lookup q.1 = some .local)) ∧ RelV p.2 q.2
theorem matchEach_run {pins : List (Addr × Obj)} {σ : St} {H : Hp} : ∀ {ps : List Pattern} {qs : MQ} {vs : List V} {us : List Value} {s : Shared}, PatEach X ps qs → Vals vs us → qs.length = vs.length → scalOk qs vs → Inv X pins σ H s →
    wpAny (model X.prog X.w) X.A (matchEach ps X.env us) (fun r s' => Inv X pins σ H s' ∧ match mBind qs vs with | none => r = none | some bs => ∃ bs', r = some bs' ∧ BindsAre X bs bs') X.xe s := by
  intro ps
  induction ps with
  | nil =>
    intro qs vs us s hp r hl hs I
    cases hp
    cases vs with
    | nil =>
      cases r
      exact wpAny_matchEach_nil ⟨I, [], rfl, .nil⟩
    | cons v vs => cases hl
  | cons p ps ih =>
    intro qs vs us s hp r hl hs I
    cases qs with
    | nil => cases hp
    | cons q qs =>
      cases vs with
      | nil => cases hl
      | cons v vs =>
        cases r with
        | cons rv rr =>
          rename_i u us
          have hl' : qs.length = vs.length := Nat.succ.inj hl
          cases q with
          | inl z' =>
            cases hp with
            | val hp2 =>
            rename_i k c pp
            obtain ⟨sc, hs2⟩ := hs
            refine wpAny_matchEach_cons (wpAny_matchPattern_Value (Calls.Constant_str ?_)) rfl
            have I1 := I.tok (s.toks + 1)
            refine thn (op_eq pins { s with toks := s.toks + 1 } σ H v (.str z') u (.str z' s.toks) (fun x H' => H' = H ∧ x = .bl (decide (v = .str z'))) I1 rv ⟨_, rfl⟩ ⟨sc, rfl, rfl⟩) fun w s2 hw => ?_
            obtain ⟨x, H', I2, rx, eH, ex⟩ := hw
            subst eH ex
            obtain rfl : w = Value.bool (decide (v = .str z')) := rx
            refine wpAny_truthy_bool ?_
            by_cases hv : v = .str z'
            · rw [if_pos (decide_eq_true hv)]
              refine thn (ih hp2 rr hl' (hs2 hv) I2) fun r' s3 ⟨I3, h3⟩ => ?_
              unfold mBind
              rw [if_pos hv]
              revert h3
              cases mBind qs vs with
              | none => intro h3; subst h3; exact ⟨I3, rfl⟩
              | some bs =>
                rintro ⟨bs', e, hb⟩
                subst e
                exact ⟨I3, bs', rfl, hb⟩
            · rw [if_neg (by simp [hv])]
              unfold mBind
              rw [if_neg hv]
              exact ⟨I2, rfl⟩
          | inr i =>
            cases hp with
            | cap hx hp2 =>
            refine wpAny_matchEach_cons (wpAny_matchPattern_Capture ?_) rfl
            refine thn (ih hp2 rr hl' hs I) fun r' s3 ⟨I3, h3⟩ => ?_
            unfold mBind
            revert h3
            cases mBind qs vs with
            | none => intro h3; subst h3; exact ⟨I3, rfl⟩
            | some bs =>
              rintro ⟨bs', e, hb⟩
              subst e
              exact ⟨I3, _, rfl, .cons ⟨hx, rv⟩ hb⟩
theorem binds_run {pins : List (Addr × Obj)} {H : Hp} (hN : X.N.Nodup) : ∀ {bs : List (Nat × V)} {bs' : List (Str × Value)} {σ : St} {s : Shared} {Q : Unit → Shared → Prop} {E : Value → Shared → Prop}, BindsAre X bs bs' → Inv X pins σ H s →
    (∀ s', Inv X pins (setAll σ bs) H s' → Q () s') → wpAny (model X.prog X.w) X.A (assignInOrder (bs'.map fun (n, _) => bindName X.env n) (bs'.map (·.2))) Q E s
  | [], _, σ, s, Q, E, .nil, I, h => assignInOrder_nil (h s I)
  | (i, v) :: bs, (x, u) :: bs', σ, s, Q, E, .cons hx hb, I, h => by
    obtain ⟨⟨h1, h2, h3⟩, rv⟩ := hx
    refine assignInOrder_cons (wpAny_bindName (store_ok I hN h1 h2 rv (fun s1 I1 => ?_) h3))
    exact binds_run hN hb I1 h
abbrev TC := V → TS
/-- the cases of a match, from one on -/
structure PCs (X : Cx) (cs : List MatchCase) (t : TC) : Prop where
  run : ∀ (first : Bool) (pins : List (Addr × Obj)) (s : Shared) (σ : St) (H : Hp) (D : Ends) (x : V) (v : Value), Inv X pins σ H s → RelV x v → t x D σ H → wpAny (model X.prog X.w) X.A (matchCases cs X.env v first) (SP X pins D) X.xe s
/-- case _: -/
theorem pcs_wild {body : List Stmt} {tb : TS} {p : Pos} (hb : PSs X body tb) : PCs X [⟨.MatchAs none none p, none, body⟩] (fun _ => tb) := by
  refine ⟨fun first pins s σ H D x v I r h => ?_⟩
  exact wpAny_matchCases_cons (wpAny_matchPattern_Capture (assignInOrder_nil (hb.run pins s σ H D I h)))
def NoSeq : V → Prop
  | .non | .bl _ | .int _ | .str _ => True
  | _ => False
def tCaseS (K : PySem.W.Frag) (qs : MQ) (g : TT) (tb : TS) (rest : TC) : TC := fun x D σ H =>
  (NoSeq x ∧ rest x D σ H) ∨ ∃ a xs, x = .ref a ∧ (SqT K H a xs ∨ SqL K H a xs) ∧ ((xs.length ≠ qs.length ∧ rest x D σ H) ∨ (xs.length = qs.length ∧ scalOk qs xs ∧
    match mBind qs xs with
    | none => rest x D σ H
    | some bs => g (setAll σ bs) H fun ok H1 => if ok = true then tb D (setAll σ bs) H1 else rest x D (setAll σ bs) H1))
theorem noseq_flag {x : V} {v : Value} (n : NoSeq x) (r : RelV x v) {Q : Bool → Shared → Prop} {M : Model} {A : Around} {E : Value → Shared → Prop} {s : Shared} (h : Q false s) : wpAny M A (collectionFlag true v) Q E s := by
  cases x with
  | non => cases r; exact wpAny_collectionFlag (T := "NoneType") rfl flag_seq_None h
  | bl _ => cases r; exact wpAny_collectionFlag (T := "bool") rfl flag_seq_bool h
  | int _ => obtain ⟨t, rfl⟩ := r; exact wpAny_collectionFlag (T := "int") rfl flag_seq_int h
  | str _ => obtain ⟨t, rfl⟩ := r; exact wpAny_collectionFlag (T := "str") rfl flag_seq_str h
  | byt _ => exact n.elim
  | flt _ => exact n.elim
  | ref _ => exact n.elim
  | ty _ => exact n.elim
/-- case [p1, p2, ..] if g: -/
theorem pcs_seq {ps : List Pattern} {qs : MQ} {g : Expr} {body : List Stmt} {rest : List MatchCase} {tg : TT} {tb : TS} {tr : TC} {p : Pos} (hc : X.calm = true) (hN : X.N.Nodup) (hp : PatEach X ps qs) (hl : ps.length = qs.length) (hg : PT X g tg) (hb : PSs X body tb) (hr : PCs X rest tr)
    (hstar : ps.findIdx? (·.isStar) = none := by rfl) (hwild : (ps.all fun p => p.isWildcard || (p.isStar && p.names.isEmpty)) = false := by rfl) : PCs X (⟨.MatchSequence ps p, some g, body⟩ :: rest) (tCaseS X.K qs tg tb tr) := by
  refine ⟨fun first pins s σ H D x v I r h => wpAny_matchCases_cons ?_⟩
  rcases h with ⟨n, h⟩ | ⟨a, xs, rfl, hq, h⟩
  · refine wpAny_matchPattern_Sequence (noseq_flag n r ?_) hstar hwild
    rw [if_neg Bool.false_ne_true]
    exact hr.run false pins s σ H D x v I r h
  · obtain rfl : v = Value.ref a := r
    have tail : ∀ {us : List Value} {s1 : Shared}, Inv X pins σ H s1 → Vals xs us → xs.length = qs.length → scalOk qs xs → (match mBind qs xs with
        | none => tr (.ref a) D σ H
        | some bs => tg (setAll σ bs) H fun ok H1 => if ok = true then tb D (setAll σ bs) H1 else tr (.ref a) D (setAll σ bs) H1) →
        wpAny (model X.prog X.w) X.A (matchEach ps X.env us) (fun r s₁ => match r with
          | none => wpAny (model X.prog X.w) X.A (matchCases rest X.env (.ref a) false) (SP X pins D) X.xe s₁
          | some bs => wpAny (model X.prog X.w) X.A (assignInOrder (bs.map fun (n, _) => bindName X.env n) (bs.map (·.2))) (fun _ s₂ =>
              wpAny (model X.prog X.w) X.A (isTrue g X.env (eval g X.env)) (fun ok s₃ => if ok then wpAny (model X.prog X.w) X.A (execs body X.env) (SP X pins D) X.xe s₃ else wpAny (model X.prog X.w) X.A (matchCases rest X.env (.ref a) false) (SP X pins D) X.xe s₃) X.xe s₂) X.xe s₁) X.xe s1 := by
      intro us s1 I1 rv hl2 hs hm
      refine thn (matchEach_run hp rv hl2.symm hs I1) fun r' s3 ⟨I3, h3⟩ => ?_
      revert h3 hm
      cases mBind qs xs with
      | none => intro hm h3; subst h3; exact hr.run false pins s3 σ H D (.ref a) _ I3 rfl hm
      | some bs =>
        rintro hm ⟨bs', e, hb'⟩
        subst e
        refine binds_run hN hb' I3 fun s4 I4 => ?_
        refine thn (hg.run pins s4 _ H _ I4 hm) fun ok s5 ⟨H5, I5, h5⟩ => ?_
        cases ok with
        | true => exact hb.run pins s5 _ H5 D I5 h5
        | false => exact hr.run false pins s5 _ H5 D (.ref a) _ I5 rfl h5
    rcases hq with hq | hq
    · obtain ⟨its, rv, ht, hz⟩ := I.tuple hq
      have hfit : (its.toArray.size : Int) < 2 ^ 63 := by
        have e := rv.length
        have z := line63
        rw [List.size_toArray]
        omega
      have I1 := I.tok (s.toks + 1 + 1)
      rcases h with ⟨hn, h⟩ | ⟨hn, hs, h⟩
      · exact matchSeq_tuple_miss ht hfit (by rw [List.size_toArray, ← rv.length, hl]; exact hn) (hr.run false pins _ σ H D (.ref a) _ I1 rfl h) hstar hwild
      · refine matchSeq_tuple_hit ht hfit (by rw [List.size_toArray, ← rv.length, hl]; exact hn) ?_ hstar hwild
        have e : ps.length = its.toArray.size := by rw [List.size_toArray, ← rv.length, hl]; exact hn.symm
        rw [e]
        refine unpackItems_tuple (I.ok.hd hc) ht fun h' hx => ?_
        exact tail (I1.kept (t' := s.toks + 1 + 1) fun b o q => hx b o (Nat.ne_of_lt (Heap.lt_size q)) q) (by simpa using rv) hn hs h
    · obtain ⟨its, rv, pl, hz⟩ := I.list hq
      have hfit : (its.toArray.size : Int) < 2 ^ 63 := by
        have e := rv.length
        have z := line63
        rw [List.size_toArray]
        omega
      have I1 := I.tok (s.toks + 1 + 1)
      rcases h with ⟨hn, h⟩ | ⟨hn, hs, h⟩
      · exact matchSeq_list_miss pl.isList hfit (by rw [List.size_toArray, ← rv.length, hl]; exact hn) (hr.run false pins _ σ H D (.ref a) _ I1 rfl h) hstar hwild
      · refine matchSeq_list_hit pl.isList hfit (by rw [List.size_toArray, ← rv.length, hl]; exact hn) ?_ hstar hwild
        have e : ps.length = its.toArray.size := by rw [List.size_toArray, ← rv.length, hl]; exact hn.symm
        rw [e]
        refine PySem.W.kun_itemsOf (I.ok.hd hc) pl.isList fun h' hx => ?_
        exact tail (I1.kept (t' := s.toks + 1 + 1) fun b o q => hx b o (Nat.ne_of_lt (Heap.lt_size q)) q) (by simpa using rv) hn hs h
def tMatch (te : TE) (tc : TC) : TS := fun D σ H => te σ H fun x H1 => tc x D σ H1
theorem ps_match {e : Expr} {cs : List MatchCase} {te : TE} {tc : TC} {pos : Pos} (he : PE X e te) (hc : PCs X cs tc) : PS X (.Match e cs pos) (tMatch te tc) := by
  refine ⟨fun pins s σ H D I h => wpAny_Match (thn (he.run pins s σ H _ I h) fun v s1 ⟨x, H1, I1, r, q⟩ => ?_)⟩
  exact hc.run true pins s1 σ H1 D x v I1 r q
end
end L2.Px
set_option Elab.async false
set_option linter.all false
set_option maxRecDepth 100000
set_option maxHeartbeats 1000000
namespace PySem
open Sem (wp)
open AutoSeq1 (wpAny_loadPart')
theorem pxMeets_enumerate_newT (l : Addr) (items : Array Value) (n : Nat) (dct : Option Addr) (sl : Array (Option Value)) :
    Meets (Builtin.«enumerate.__new__» ⟨[.type "enumerate", .ref l], []⟩) (fun _ R s => s.heap.get? l = some { cls := .type "tuple", dict := dct, data := .seq items n, slots := sl } ∧
      R (.ok (.ret (.ref (s.heap.push { cls := .type "tuple_iterator", data := .fields #[.ref l, .int 0 0] }).objs.size)))
        { s with heap := (s.heap.push { cls := .type "tuple_iterator", data := .fields #[.ref l, .int 0 0] }).push { cls := .type "enumerate", data := .fields #[.none, .bool false, .ref s.heap.objs.size, rawInt 0, .none, .none] } }) :=
  .of_wp fun prog w A R s h => by
    obtain ⟨hp, g, d, tk, os⟩ := s; obtain ⟨hl, h⟩ := h
    have hsub := sub_enumerate
    have hL : Heap.IsTuple (Shared.heap ⟨hp, g, d, tk, os⟩) l items := ⟨_, hl, rfl, n, rfl⟩
    wp_walk using wpAny_loadPart' hl
    refine wpAny_stack_any fun st => wpAny_pure ?_
    split
    · rename_i c _ _ _ _ _
      cases (c == Value.type "enumerate")
      · wp_walk using wpAny_loadPart' hl, wpAny_pyIter_tuple hL
        exact ⟨_, rfl, h⟩
      · wp_walk using wpAny_loadPart' hl, wpAny_pyIter_tuple hL
        exact ⟨_, rfl, h⟩
    · wp_walk using wpAny_loadPart' hl, wpAny_pyIter_tuple hL
      exact ⟨_, rfl, h⟩
section
variable {prog : Program} {w : World} {A : Around} {E : Value → Shared → Prop} {s : Shared}
theorem pxCall_enumerate_tuple {l : Addr} {items : Array Value} {Q : Value → Shared → Prop} (hL : s.heap.IsTuple l items)
    (h : ∀ h', IsEnum h' (s.heap.objs.size + 1) s.heap.objs.size 0 .none → h'.IsTupleIter s.heap.objs.size l 0 → h'.objs.size = s.heap.objs.size + 2 →
      (∀ b o, s.heap.get? b = some o → h'.get? b = some o) → Q (.ref (s.heap.objs.size + 1)) { s with heap := h' }) :
    wpAny (model prog w) A (call (.type "enumerate") [.ref l]) Q E s := by
  obtain ⟨⟨c, dct, dt, sl⟩, hl, hc, n, hd⟩ := hL
  replace hc : c = .type "tuple" := hc
  replace hd : dt = .seq items n := hd
  subst hc hd
  refine callType_new F.called_enumerate (by decide) (F.typeCall_enumerate_1 _) (F.newCall_enumerate_1 _) (fun obj => F.args_object_init_2 obj _) F.entry_enumerate_new
    (pxMeets_enumerate_newT l items n dct sl) ⟨hl, ?_⟩
  have hz : (s.heap.push { cls := .type "tuple_iterator", data := .fields #[.ref l, .int 0 0] }).objs.size = s.heap.objs.size + 1 := Heap.size_push ..
  show _ ∧ _
  rw [hz]
  have he : IsEnum ((s.heap.push { cls := .type "tuple_iterator", data := .fields #[.ref l, .int 0 0] }).push
      { cls := .type "enumerate", data := .fields #[.none, .bool false, .ref s.heap.objs.size, rawInt 0, .none, .none] }) (s.heap.objs.size + 1) s.heap.objs.size 0 .none := by
    have := Heap.get?_push_size (s.heap.push { cls := .type "tuple_iterator", data := .fields #[.ref l, .int 0 0] })
      (o := { cls := .type "enumerate", data := .fields #[.none, .bool false, .ref s.heap.objs.size, rawInt 0, .none, .none] }) rfl
    rw [hz] at this; exact this
  refine ⟨⟨_, he, rfl⟩, h _ he ⟨_, Heap.get?_push_of_some _ (Heap.get?_push_size _ rfl), rfl, rfl⟩ (by rw [Heap.size_push, hz]) fun b o x => Heap.get?_push_of_some _ (Heap.get?_push_of_some _ x)⟩
end
end PySem
namespace L2.Px
open PySem PySem.Spec PyProof.Rows StX
/-- the tuple at a, each item in a new pair -/
def IteT (K : PySem.W.Frag) (a : Addr) : It :=
  ⟨fun i H => ∃ (xs : List V) (x : V), SqT K H a xs ∧ xs[i]? = some x, fun i H v H' => ∃ T x, v = .ref T ∧ H T = none ∧ H' = upd H T (.tup [.int (i : Nat), x]) ∧ ∀ xs, SqT K H a xs → xs[i]? = some x, fun i H => ∃ xs : List V, SqT K H a xs ∧ xs.length ≤ i⟩
theorem turn_enumT {P : Program} {w : World} {K : PySem.W.Frag} {elts : List Expr} {kk : Nat} {tpos : Pos} (a e it : Addr) :
    Turn P w K (.Tuple elts kk tpos) (IteT K a) [e, it] e (fun i h => (∃ old, IsEnum h e it ((i : Nat) : Int) old) ∧ h.IsTupleIter it a i ∧ e ≠ it) where
  mem := by simp
  obj := fun i h st b hb => by
    obtain ⟨⟨old, he⟩, ⟨o, ho, hc, hd⟩, _⟩ := st
    have e' : b = e ∨ b = it := by simpa using hb
    rcases e' with z | z
    · rw [z]; exact ⟨_, he, fun v q => nomatch q⟩
    · rw [z]; exact ⟨o, ho, fun v q => by rw [hd] at q; cases q⟩
  keep := fun i h h' st k => let ⟨⟨old, he⟩, hi, hne⟩ := st; ⟨⟨old, k e (by simp) _ he⟩, hi.at fun o q => k it (by simp) o q, hne⟩
  item := by
    intro X hP hw hK hc i pins s σ H E I hf st hg
    subst hP hw hK
    obtain ⟨⟨old, he⟩, hit, hne⟩ := st
    obtain ⟨xs, x, hq, hx⟩ := hg
    obtain ⟨its, rv, p, hz⟩ := I.tuple hq
    obtain ⟨u, hu, ru⟩ := rv.get hx
    have hel : e < s.heap.objs.size := Heap.lt_size he
    have hil : it < s.heap.objs.size := by obtain ⟨_, q, _⟩ := hit; exact Heap.lt_size q
    have hh : X.A.handled = none := I.ok.hd hc
    have hait : a ≠ it := by
      rintro rfl
      obtain ⟨o1, q1, c1, _⟩ := p
      obtain ⟨o2, q2, c2, _⟩ := hit
      rw [q1] at q2; cases q2; rw [c1] at c2; exact absurd (Value.type.inj c2) (by decide)
    have hae : e ≠ a := by
      rintro rfl
      obtain ⟨o1, q1, c1, _⟩ := p
      have he' : s.heap.get? e = some _ := he
      rw [q1] at he'; cases he'; exact absurd (Value.type.inj c1) (by decide)
    have hi : i < its.toArray.size := by
      rw [List.size_toArray]
      exact (List.getElem?_eq_some_iff.mp hu).1
    refine wpAny_pyNext_enum_itemD (Draws.tuple (A := X.A.in1) hh it a hait its.toArray) he ⟨hit, p⟩ hi hne (by simp [hne, hae]) fun u' h' tk hu' ho hit' hT hsz hk => ?_
    have eu : u' = u := by
      have q : its[i]? = some u' := by simpa using hu'
      rw [hu] at q; exact (Option.some.inj q).symm
    subst eu
    refine ⟨_, rfl, wpAny_letOwnedTupleGo_enum (s := { s with heap := h', toks := tk + 1 }) ho fun h'' he' sb => ?_⟩
    have hT2 : h''.get? s.heap.objs.size = some { cls := .type "tuple", data := .seq #[.int i tk, u'] } := (sb.2 _ (Nat.ne_of_gt hel)).trans hT
    have new : ObjOk X.prog X.w (upd H s.heap.objs.size (.tup [.int (i : Nat), x])) h'' s.heap.objs.size (.tup [.int (i : Nat), x]) :=
      ⟨by show 2 ≤ sizeLine; decide, [.int i tk, u'], .cons ⟨_, rfl⟩ (.cons ru .nil), ⟨_, hT2, rfl, _, rfl⟩⟩
    have I1 : Inv X pins σ (upd H s.heap.objs.size (.tup [.int (i : Nat), x])) { s with heap := h'', toks := tk + 1 } :=
      I.turnedNew (ch := [e, it]) (fun b ob hb q => (sb.2 b (fun z => hb (by simp [z]))).trans (hk b ob (fun z => hb (by simp [z])) (fun z => hb (by simp [z])) q)) hf (Nat.le_refl _) new
    refine ⟨.ref s.heap.objs.size, _, I1, rfl, ⟨_, x, rfl, I.hok.fresh (Nat.le_refl _), rfl, fun ys hy => by rw [I.tuple_inj hy hq]; exact hx⟩, ⟨⟨u', ?_⟩, hit'.1.at fun o q => (sb.2 it (Ne.symm hne)).trans q, hne⟩, fun b hb => ?_⟩
    · have e1 : ((i + 1 : Nat) : Int) = (i : Int) + 1 := by omega
      rw [e1]; exact he'
    · have hb' : b < s.heap.objs.size := by
        have e' : b = e ∨ b = it := by simpa using hb
        rcases e' with z | z
        · rw [z]; exact hel
        · rw [z]; exact hil
      rw [upd_ne (Nat.ne_of_lt hb')]
      exact (hf b hb).1
  done := by
    intro X hP hw hK hc i pins s σ H E I hf st hg
    subst hP hw hK
    obtain ⟨⟨old, he⟩, hit, hne⟩ := st
    obtain ⟨xs, hq, hx⟩ := hg
    obtain ⟨its, rv, p, hz⟩ := I.tuple hq
    obtain ⟨f0, f1, f2, f3, f4, f5⟩ := hf it (by simp)
    have hh : X.A.handled = none := I.ok.hd hc
    have hn : its.toArray[i]? = none := by
      have hl := rv.length
      simp; omega
    have hT : s.TypeIs (.ref e) "enumerate" := ⟨_, he, rfl⟩
    unfold pyNext
    refine wpAny_bind (wpAny_attempt (wpAny_callSpecial?_slot (name := Str.ofString "__next__") hT F.slot_enumerate_next
      (wpAny_call_entry F.slot_enumerate_next hT F.entry_enumerate_next ?_ (F.args_enumerate_next_1 _))))
    show wpAny _ _ (field (.ref e) 2 >>= _) _ _ _
    refine wpAny_bind (wpAny_field he rfl (x := .ref it) rfl ?_)
    refine wpAny_bind (wpAny_nextOf_tuple_end hh hit p hn fun h' x he' hx' => ?_)
    obtain ⟨o, ho, hc'⟩ := hx'
    refine wpAny_bind (wpAny_isInstance (T := "StopIteration") (b := true) ⟨o, ho, hc'⟩ isSubtype_stop ?_)
    exact wpAny_pure ⟨rfl, I.turned (t' := s.toks) (fun b o hb q => he' b o hb q) f0 f1 f3 f4 f5⟩
  self := fun A i s Q E st h => let ⟨⟨_, he⟩, _⟩ := st; wpAny_pyIter_enum he h
def iEnumT (K : PySem.W.Frag) (ta : TA) : TI := fun σ H R => ta σ H fun vs H1 => ∃ a xs, vs = [.ref a] ∧ SqT K H1 a xs ∧ R (IteT K a) H1
theorem pi_enumT {X : Cx} {e : Expr} {ta : TA} {p pos tpos : Pos} {elts : List Expr} {kk : Nat} (hm : X.mg "enumerate" = none) (ha : PA X [e] ta) (hg : Gl X "enumerate" := by rfl) (hs : starEach [e] X.env = [(false, eval e X.env)] := by rfl) :
    PI X (.Tuple elts kk tpos) (.Call (.Name "enumerate" p) [e] [] pos) (iEnumT X.K ta) := by
  refine ⟨fun pins s σ H R I h => ?_⟩
  refine Call_ (ld_blt I hg hm boot_enumerate (PyProof.Rows.callWith_type1 (thn (ha.run pos pins s σ H _ I h) fun us s1 ⟨vs, H1, I1, r1, q1⟩ => ?_) hs rfl))
  obtain ⟨a, xs, ex, hq, q⟩ := q1
  subst ex
  cases r1 with
  | cons r rr =>
    cases rr
    cases r
    obtain ⟨its, rv, p', hz⟩ := I1.tuple hq
    refine pxCall_enumerate_tuple (show s1.heap.IsTuple a its.toArray from p') fun h' he hit hsz hk => wpAny_pyIter_enum he ?_
    have I2 : Inv X pins σ H1 { s1 with heap := h' } := I1.kept (t' := s1.toks) hk
    refine ⟨s1.heap.objs.size + 1, [s1.heap.objs.size + 1, s1.heap.objs.size], _, _, H1, rfl, I2, turn_enumT a (s1.heap.objs.size + 1) s1.heap.objs.size, ⟨⟨.none, he⟩, hit, Nat.succ_ne_self _⟩, fun b hb => ?_, q⟩
    have e' : b = s1.heap.objs.size + 1 ∨ b = s1.heap.objs.size := by simpa using hb
    have hle : s1.heap.objs.size ≤ b := by
      rcases e' with z | z
      · rw [z]; exact Nat.le_add_right _ _
      · rw [z]; exact Nat.le_refl _
    exact I1.fpOk hle (I1.hok.fresh hle)
/-- the loop over such a walk: the pair is new at T -/
theorem for_enumT {K : PySem.W.Frag} {a : Addr} {xs : List V} {g : TG} {tb : TS} {D : Ends} {σ : St} {H : Hp} (Pv : Nat → St → Hp → Prop) (h0 : Pv 0 σ H) (hl : ∀ i σ H, i ≤ xs.length → Pv i σ H → SqT K H a xs)
    (hs : ∀ i x T σ H, xs[i]? = some x → Pv i σ H → H T = none → g (.ref T) σ (upd H T (.tup [.int (i : Nat), x])) fun σ2 H2 => tb { D with nx := Pv (i + 1), ct := Pv (i + 1), bk := D.nx } σ2 H2) (hd : ∀ σ H, Pv xs.length σ H → D.nx σ H) :
    ∃ W : Nat → Nat → St → Hp → Prop, (∃ m, W 0 m σ H) ∧ ∀ i m σ H, W i m σ H →
      ((IteT K a).stop i H ∧ D.nx σ H) ∨ ((IteT K a).go i H ∧ ∃ N : St → Hp → Prop, (∀ σ' H', N σ' H' → ∃ m', m' < m ∧ W (i + 1) m' σ' H') ∧ ∀ x H', (IteT K a).yld i H x H' → g x σ H' fun σ2 H2 => tb { D with nx := N, ct := N, bk := D.nx } σ2 H2) := by
  refine ⟨fun i m σ H => m = xs.length - i ∧ i ≤ xs.length ∧ Pv i σ H, ⟨xs.length, by simp, Nat.zero_le _, h0⟩, ?_⟩
  rintro i m σ H ⟨rfl, hi, p⟩
  have q := hl i σ H hi p
  by_cases hlt : i < xs.length
  · refine .inr ⟨⟨xs, xs[i], q, by simp [hlt]⟩, Pv (i + 1), fun σ' H' p' => ⟨xs.length - (i + 1), by omega, rfl, hlt, p'⟩, fun x H' y => ?_⟩
    obtain ⟨T, z, rfl, hT, rfl, y⟩ := y
    exact hs i z T σ H (y xs q) p hT
  · have e : i = xs.length := by omega
    subst e
    exact .inl ⟨⟨xs, q, Nat.le_refl _⟩, hd σ H p⟩
end L2.Px
set_option Elab.async false
set_option linter.all false
set_option maxRecDepth 100000
set_option maxHeartbeats 1000000
namespace L2.Px
open PySem PySem.Spec PyProof.Rows StX
section
variable {X : Cx}
def rAddS : R2 := fun x y H Q => ∃ i j, x = .str i ∧ y = .str j ∧ i.length + j.length ≤ sizeLine ∧ Q (.str (i ++ j)) H
def rAddA (K : PySem.W.Frag) : R2 := fun x y H Q => rI0 (fun i j => .int (i + j)) x y H Q ∨ rAddS x y H Q ∨ rCat x y H Q
theorem oAdd : OpR X (binaryOp .Add) (rAddA X.K) := op_add.or (op_add_str.or op_cat)
def rMulA : R2 := fun x y H Q => rI CMul (fun i j => .int (i * j)) x y H Q ∨ rRep x y H Q
theorem oMul : OpR X (binaryOp .Mult) rMulA := op_mul.or op_rep
def rEqA (K : PySem.W.Frag) : R2 := fun x y H Q => rEq x y H Q ∨ rEqD K x y H Q
def rNeA (K : PySem.W.Frag) : R2 := fun x y H Q => rNe x y H Q ∨ rNeD K x y H Q
theorem oEq (hu : X.A.units + 64 < cLine) : OpR X (compareOp .Eq) (rEqA X.K) := op_eq.or (op_eqD hu)
theorem oNe (hu : X.A.units + 64 < cLine) : OpR X (compareOp .NotEq) (rNeA X.K) := op_ne.or (op_neD hu)
end
section
variable {K : PySem.W.Frag} {σ : St} {H : Hp} {Q : VK} {i j : Int} {x y : Str} {a b : Addr} {xs ys : List V} {p q : Prop} {A B : Prop} {c : Bool} {v : V}
theorem rd_add_int (h : Q (.int (i + j)) H) : rAddA K (.int i) (.int j) H Q := .inl ⟨i, j, rfl, rfl, h⟩
theorem rd_add_str (hz : x.length + y.length ≤ sizeLine) (h : Q (.str (x ++ y)) H) : rAddA K (.str x) (.str y) H Q := .inr (.inl ⟨x, y, rfl, rfl, hz, h⟩)
theorem rd_add_lst (ha : H a = some (.lst xs)) (hb : H b = some (.lst ys)) (hz : xs.length + ys.length ≤ sizeLine) (h : ∀ p, H p = none → Q (.ref p) (upd H p (.lst (xs ++ ys)))) : rAddA K (.ref a) (.ref b) H Q := .inr (.inr ⟨a, b, xs, ys, rfl, rfl, ha, hb, hz, h⟩)
theorem rd_mul_int (hc : CMul i j) (h : Q (.int (i * j)) H) : rMulA (.int i) (.int j) H Q := .inl ⟨i, j, rfl, rfl, hc, h⟩
theorem rd_eq_scal {v w : V} (hs : scal v w = true) (h : Q (.bl (decide (v = w))) H) : rEqA K v w H Q := .inl ⟨hs, h⟩
theorem rd_ne_scal {v w : V} (hs : scal v w = true) (h : Q (.bl (!decide (v = w))) H) : rNeA K v w H Q := .inl ⟨hs, h⟩
theorem dec_int (i j : Int) : decide (V.int i = V.int j) = decide (i = j) := by rw [L2.dec_int, Bool.beq_eq_decide_eq]
theorem dec_str (x y : Str) : decide (V.str x = V.str y) = decide (x = y) := by rw [L2.dec_str, Bool.beq_eq_decide_eq]
theorem dec_bl (x y : Bool) : decide (V.bl x = V.bl y) = decide (x = y) := by rw [L2.dec_bl, Bool.beq_eq_decide_eq]
theorem rd_eq_int (h : Q (.bl (decide (i = j))) H) : rEqA K (.int i) (.int j) H Q := rd_eq_scal rfl (by rw [dec_int]; exact h)
theorem rd_eq_str (h : Q (.bl (decide (x = y))) H) : rEqA K (.str x) (.str y) H Q := rd_eq_scal rfl (by rw [dec_str]; exact h)
theorem rd_eq_bl {c d : Bool} (h : Q (.bl (decide (c = d))) H) : rEqA K (.bl c) (.bl d) H Q := rd_eq_scal rfl (by rw [dec_bl]; exact h)
theorem rd_ne_int (h : Q (.bl (!decide (i = j))) H) : rNeA K (.int i) (.int j) H Q := rd_ne_scal rfl (by rw [dec_int]; exact h)
theorem rd_ne_str (h : Q (.bl (!decide (x = y))) H) : rNeA K (.str x) (.str y) H Q := rd_ne_scal rfl (by rw [dec_str]; exact h)
theorem rd_ne_bl {c d : Bool} (h : Q (.bl (!decide (c = d))) H) : rNeA K (.bl c) (.bl d) H Q := rd_ne_scal rfl (by rw [dec_bl]; exact h)
theorem rd_eq_dat {d e : PyData} {v w : V} (hd : Dp K H v d) (he : Dp K H w e) (sd : SeqAt.shaped d = true) (se : SeqAt.shaped e = true) (h : Q (.bl (PyData.eqv d e)) H) : rEqA K v w H Q := .inr ⟨d, e, hd, he, sd, se, h⟩
theorem rd_ne_dat {d e : PyData} {v w : V} (hd : Dp K H v d) (he : Dp K H w e) (sd : SeqAt.shaped d = true) (se : SeqAt.shaped e = true) (h : Q (.bl (!PyData.eqv d e)) H) : rNeA K v w H Q := .inr ⟨d, e, hd, he, sd, se, h⟩
theorem rd_sub (h : Q (.int (i - j)) H) : rI0 (fun i j => .int (i - j)) (.int i) (.int j) H Q := ⟨i, j, rfl, rfl, h⟩
theorem rd_I0 {g : Int → Int → V} (h : Q (g i j) H) : rI0 g (.int i) (.int j) H Q := ⟨i, j, rfl, rfl, h⟩
theorem rd_I {C : Int → Int → Prop} {g : Int → Int → V} (hc : C i j) (h : Q (g i j) H) : rI C g (.int i) (.int j) H Q := ⟨i, j, rfl, rfl, hc, h⟩
theorem rd_bl {R : Bool → Prop} (h : R c) : ∃ k, V.bl c = .bl k ∧ R k := ⟨c, rfl, h⟩
theorem rd_dT [Decidable p] (h : p) (a : A) : if decide p = true then A else B := by rw [if_pos (decide_eq_true h)]; exact a
theorem rd_dF [Decidable p] (h : ¬ p) (b : B) : if decide p = true then A else B := by rw [if_neg (by simp [h])]; exact b
theorem rd_nT [Decidable p] (h : ¬ p) (a : A) : if (!decide p) = true then A else B := by rw [if_pos (by simp [h])]; exact a
theorem rd_nF [Decidable p] (h : p) (b : B) : if (!decide p) = true then A else B := by rw [if_neg (by simp [h])]; exact b
theorem rd_cT (h : c = true) (a : A) : if c = true then A else B := by rw [if_pos h]; exact a
theorem rd_cF (h : c = false) (b : B) : if c = true then A else B := by rw [h, if_neg Bool.false_ne_true]; exact b
theorem rd_ite [Decidable p] (a : p → A) (b : ¬ p → B) : if decide p = true then A else B := by
  by_cases h : p
  · exact rd_dT h (a h)
  · exact rd_dF h (b h)
variable {te ta tb tc' : TE} {t : TA} {tt uu : TT} {sp : Sp} {E : XK} {r r' : R2} {n : Nat} {f m : Str} {C dx : Addr} {fs : List (Str × V)}
theorem rd_var (h : σ[n]? = some (some v)) (q : Q v H) : tVar n σ H Q := ⟨v, h, q⟩
theorem rd_C (q : Q v H) : tC v σ H Q := q
theorem rd_op (h : ta σ H fun x H1 => tb σ H1 fun y H2 => r x y H2 Q) : tOp r ta tb σ H Q := h
theorem rd_test {R : Bool → Hp → Prop} (h : te σ H fun x H' => ∃ k, x = .bl k ∧ R k H') : tTest te σ H R := h
theorem rd_tB {R : Bool → Hp → Prop} (h : te σ H fun x H' => ∃ k, x = .bl k ∧ R k H') : tB te σ H R := h
theorem rd_chain (h : ta σ H fun x H1 => tb σ H1 fun y H2 => r x y H2 fun z H3 => ∃ k, z = .bl k ∧ (if k = true then tc' σ H3 fun w' H4 => r' y w' H4 Q else Q (.bl false) H3)) : tChain r r' ta tb tc' σ H Q := h
theorem rd_and {R : Bool → Hp → Prop} (h : tt σ H fun c H1 => if c = true then uu σ H1 R else R false H1) : tAnd tt uu σ H R := h
theorem rd_or {R : Bool → Hp → Prop} (h : tt σ H fun c H1 => if c = true then R true H1 else uu σ H1 R) : tOr tt uu σ H R := h
theorem rd_not {R : Bool → Hp → Prop} (h : tt σ H fun c H1 => R (!c) H1) : tNot tt σ H R := h
theorem rd_andV (h : ta σ H fun x H1 => ∃ k, x = .bl k ∧ (if k = true then tb σ H1 Q else Q (.bl false) H1)) : tAndV ta tb σ H Q := h
theorem rd_orV (h : ta σ H fun x H1 => ∃ k, x = .bl k ∧ (if k = true then Q (.bl true) H1 else tb σ H1 Q)) : tOrV ta tb σ H Q := h
theorem rd_notV (h : ta σ H fun x H1 => ∃ k, x = .bl k ∧ Q (.bl (!k)) H1) : tNotV ta σ H Q := h
theorem rd_if (h : tt σ H fun c H1 => if c = true then ta σ H1 Q else tb σ H1 Q) : tIf tt ta tb σ H Q := h
theorem rd_g (h : t σ H fun vs H1 => sp vs H1 Q E) : tG sp E t σ H Q := h
theorem rd_m (h : ta σ H fun x H1 => ∃ a, x = .ref a ∧ InsM H1 a C m ∧ t σ H1 fun vs H2 => sp (x :: vs) H2 Q E) : tM C m sp E ta t σ H Q := h
theorem rd_m_at (i : InsM H a C m) (h : t σ H fun vs H2 => sp (.ref a :: vs) H2 Q E) : ∃ a', V.ref a = .ref a' ∧ InsM H a' C m ∧ t σ H fun vs H2 => sp (V.ref a :: vs) H2 Q E := ⟨a, rfl, i, h⟩
theorem rd_nil {R : List V → Hp → Prop} (h : R [] H) : tNil σ H R := h
theorem rd_cons {R : List V → Hp → Prop} (h : te σ H fun x H1 => t σ H1 fun xs H2 => R (x :: xs) H2) : tCons te t σ H R := h
theorem rd_star {R : List V → Hp → Prop} (h : te σ H fun x H1 => ∃ p xs, x = V.ref p ∧ (SqT K H1 p xs ∨ SqL K H1 p xs) ∧ t σ H1 fun ys H2 => R (xs ++ ys) H2) : tStar K te t σ H R := h
theorem rd_tup (h : t σ H fun xs H1 => xs.length ≤ sizeLine ∧ ∀ p, H1 p = none → Q (.ref p) (upd H1 p (.tup xs))) : tTup t σ H Q := h
theorem rd_lst (h : t σ H fun xs H1 => xs.length ≤ sizeLine ∧ ∀ p, H1 p = none → Q (.ref p) (upd H1 p (.lst xs))) : tLst t σ H Q := h
def rFld (K : PySem.W.Frag) (f : Str) (x : V) (H1 : Hp) (Q : VK) : Prop := ∃ a C dx fs v, x = .ref a ∧ H1 a = some (.ins C dx fs) ∧ Cls K C ∧ NoAttr K C f ∧ fs.lookup f = some v ∧ Q v H1
theorem rd_fld (h : te σ H fun x H1 => rFld K f x H1 Q) : tFld K te f σ H Q := h
theorem rd_fld_at (e : H a = some (.ins C dx fs)) (c : Cls K C) (nn : NoAttr K C f) (l : fs.lookup f = some v) (q : Q v H) : rFld K f (.ref a) H Q := ⟨a, C, dx, fs, v, rfl, e, c, nn, l, q⟩
theorem rd_cb {rr : List V → Hp → VK → Prop} (h : t σ H fun vs H1 => rr vs H1 Q) : tCB rr t σ H Q := h
theorem rd_un {ru : V → Hp → VK → Prop} (h : ta σ H fun x H1 => ru x H1 Q) : tUn ru ta σ H Q := h
def rMk (C : Addr) (sp : Sp) (E : XK) (vs : List V) (H1 : Hp) (Q : VK) : Prop := ∀ x dx, H1 x = Option.none → H1 dx = Option.none → dx ≠ x → sp (V.ref x :: vs) (upd (upd H1 dx (.own x)) x (.ins C dx [])) (fun v H2 => v = .non ∧ Q (.ref x) H2) E
theorem rd_makeR (h : t σ H fun vs H1 => rMk C sp E vs H1 Q) : tMakeR C sp E t σ H Q := h
def rMkS (K : PySem.W.Frag) (C : Addr) (sp : Sp) (E : XK) (y : V) (H1 : Hp) (Q : VK) : Prop := ∃ a xs, y = V.ref a ∧ (SqT K H1 a xs ∨ SqL K H1 a xs) ∧ rMk C sp E xs H1 Q
theorem rd_makeS (h : ta σ H fun c H0 => c = V.ref C ∧ te σ H0 fun y H1 => rMkS K C sp E y H1 Q) : tMakeS K C sp E ta te σ H Q := h
theorem rd_mkS (hq : SqT K H a xs ∨ SqL K H a xs) (h : rMk C sp E xs H Q) : rMkS K C sp E (.ref a) H Q := ⟨a, xs, rfl, hq, h⟩
theorem rd_bm {T : String} {rm : V → List V → Hp → VK → Prop} (h : te σ H fun x H1 => tyV K T x H1 ∧ t σ H1 fun xs H2 => rm x xs H2 Q) : tBM K T rm te t σ H Q := h
theorem rd_bm0 {T : String} {rm : V → List V → Hp → VK → Prop} (h : te σ H fun x H1 => tyV K T x H1 ∧ rm x [] H1 Q) : tBM0 K T rm te σ H Q := h
theorem rd_ixI (h : Q v H) (hx : SqL K H a xs) (e : atI xs i = some v) : rIx K (.ref a) (.int i) H Q := .inl ⟨a, xs, i, v, rfl, rfl, hx, e, h⟩
theorem rd_ixT (h : Q v H) (hx : SqT K H a xs) (e : atI xs i = some v) : rIx K (.ref a) (.int i) H Q := .inr (.inl ⟨a, xs, i, v, rfl, rfl, hx, e, h⟩)
variable {nx ct bk : St → Hp → Prop} {rt : VK} {st su : TS} {D : Ends} {vs : List V} {g : TG} {gs : TGs} {R : St → Hp → Prop}
theorem rd_seq (h : st ⟨su ⟨nx, rt, bk, ct⟩, rt, bk, ct⟩ σ H) : tSeq st su ⟨nx, rt, bk, ct⟩ σ H := h
theorem rd_next (h : nx σ H) : tNext ⟨nx, rt, bk, ct⟩ σ H := h
theorem rd_break (h : bk σ H) : tBreak ⟨nx, rt, bk, ct⟩ σ H := h
theorem rd_cont (h : ct σ H) : tCont ⟨nx, rt, bk, ct⟩ σ H := h
theorem rd_ret (h : te σ H rt) : tRet te ⟨nx, rt, bk, ct⟩ σ H := h
theorem rd_retN (h : rt .non H) : tRetN ⟨nx, rt, bk, ct⟩ σ H := h
theorem rd_drop (h : te σ H fun _ H1 => nx σ H1) : tDrop te ⟨nx, rt, bk, ct⟩ σ H := h
theorem rd_ifS (h : tt σ H fun b H1 => if b = true then st D σ H1 else su D σ H1) : tIfS tt st su D σ H := h
theorem rd_asg (h : te σ H fun x H1 => g x σ H1 nx) : tAsg te g ⟨nx, rt, bk, ct⟩ σ H := h
theorem rd_name (h : R (σ.set n (some v)) H) : gName n v σ H R := h
theorem rd_gtup (hq : SqT K H a xs) (hl : xs.length = n) (h : gs xs σ H R) : gTup K n gs (.ref a) σ H R := ⟨a, xs, rfl, hq, hl, h⟩
theorem rd_gnil (h : R σ H) : gNil [] σ H R := ⟨rfl, h⟩
theorem rd_gcons (h : g v σ H fun σ' H' => gs vs σ' H' R) : gCons g gs (v :: vs) σ H R := ⟨v, vs, rfl, h⟩
theorem rd_gsub {s : TSet} (h : ta σ H fun o H1 => tb σ H1 fun i H2 => s o i v H2 fun H3 => R σ H3) : gSub ta tb s v σ H R := h
theorem rd_setL {P : Hp → Prop} {j : Nat} (ha : H a = some (.lst xs)) (hj : ixN xs.length i = some j) (h : P (upd H a (.lst (xs.set j v)))) : rSetL (.ref a) (.int i) v H P := ⟨a, xs, i, j, rfl, rfl, ha, hj, h⟩
theorem rd_aug {ti : TIp} (h : σ[n]? = some (some v)) (q : te σ H fun y H1 => ti v y H1 fun z H2 => nx (σ.set n (some z)) H2) : tAug n te ti ⟨nx, rt, bk, ct⟩ σ H := ⟨v, h, q⟩
theorem rd_ipI {fn : Int → Int → Int} (h : Q (.int (fn i j)) H) : ipI fn (.int i) (.int j) H Q := ⟨i, j, rfl, rfl, h⟩
def rSFld (K : PySem.W.Frag) (f : Str) (y x : V) (H2 : Hp) (k : Hp → Prop) : Prop := ∃ a C dx fs, x = .ref a ∧ H2 a = some (.ins C dx fs) ∧ Cls K C ∧ NoAttr K C f ∧ fs.length < 1000 ∧ k (upd H2 a (.ins C dx (putF f y fs)))
theorem rd_sfld (h : tb σ H fun y H1 => ta σ H1 fun x H2 => rSFld K f y x H2 (nx σ)) : sFld K ta tb f ⟨nx, rt, bk, ct⟩ σ H := h
theorem rd_sfld_at {y : V} {k : Hp → Prop} (e : H a = some (.ins C dx fs)) (c : Cls K C) (nn : NoAttr K C f) (l : fs.length < 1000) (h : k (upd H a (.ins C dx (putF f y fs)))) : rSFld K f y (.ref a) H k := ⟨a, C, dx, fs, rfl, e, c, nn, l, h⟩
theorem rd_for {wi : TI} (h : wi σ H fun J H1 => ∃ W : Nat → Nat → St → Hp → Prop, (∃ m, W 0 m σ H1) ∧ ∀ i m σ H, W i m σ H →
  (J.stop i H ∧ D.nx σ H) ∨ (J.go i H ∧ ∃ N : St → Hp → Prop, (∀ σ' H', N σ' H' → ∃ m', m' < m ∧ W (i + 1) m' σ' H') ∧ ∀ x H', J.yld i H x H' → g x σ H' fun σ2 H2 => st { D with nx := N, ct := N, bk := D.nx } σ2 H2)) : tFor wi g st D σ H := h
theorem rd_iList {Rr : It → Hp → Prop} (h : te σ H fun x H1 => ∃ a, x = .ref a ∧ (∃ xs, SqL K H1 a xs) ∧ Rr (Itl K a) H1) : iList K te σ H Rr := h
theorem rd_iTup {Rr : It → Hp → Prop} (h : te σ H fun x H1 => ∃ a, x = .ref a ∧ (∃ xs, SqT K H1 a xs) ∧ Rr (Itt K a) H1) : iTup K te σ H Rr := h
theorem rd_iRng1 {Rr : It → Hp → Prop} (h : t σ H fun vs H1 => ∃ j : Int, vs = [.int j] ∧ -(2 ^ 62) ≤ j ∧ j < 2 ^ 62 ∧ Rr (Itr 0 j.toNat) H1) : iRng1 t σ H Rr := h
theorem rd_iRng2 {Rr : It → Hp → Prop} (h : t σ H fun vs H1 => ∃ i j : Int, vs = [.int i, .int j] ∧ (-(2 ^ 62) ≤ i ∧ i < 2 ^ 62 ∧ -(2 ^ 62) ≤ j ∧ j < 2 ^ 62) ∧ Rr (Itr i (j - i).toNat) H1) : iRng2 t σ H Rr := h
theorem rd_iEnumT {Rr : It → Hp → Prop} (h : t σ H fun vs H1 => ∃ a xs, vs = [.ref a] ∧ SqT K H1 a xs ∧ Rr (IteT K a) H1) : iEnumT K t σ H Rr := h
theorem rd_match {tc : TC} (h : te σ H fun x H1 => tc x D σ H1) : tMatch te tc D σ H := h
theorem rd_par {l k : Nat} (h : t σ H fun vs H1 => ∃ v w, vs = [v, w] ∧ nx ((σ.set l (some v)).set k (some w)) H1) : tPar l k t ⟨nx, rt, bk, ct⟩ σ H := h
theorem rd_two {v w : V} {RR : V → V → Prop} (h : RR v w) : ∃ v' w', [v, w] = [v', w'] ∧ RR v' w' := ⟨v, w, rfl, h⟩
theorem rd_lc {wi : TI} {ws : List Nat} (h : wi σ H fun J H1 => ∀ D, H1 D = none → ∃ W : Nat → Nat → Hp → Prop, (∃ m, W 0 m (upd H1 D (.lst []))) ∧ ∀ i m H, W i m H →
  (J.stop i H ∧ Q (.ref D) H) ∨ (J.go i H ∧ ∃ Nx : Hp → Prop, (∀ H', Nx H' → ∃ m', m' < m ∧ W (i + 1) m' H') ∧ ∀ x H', J.yld i H x H' → g x (wipe σ ws) H' fun σ2 H2 => wipe σ2 ws = wipe σ ws ∧ tt σ2 H2 fun b H3 =>
    if b = true then te σ2 H3 fun y H4 => ∃ acc, H4 D = some (.lst acc) ∧ acc.length < sizeLine ∧ Nx (upd H4 D (.lst (acc ++ [y]))) else Nx H3)) : tLc wi g tt te ws σ H Q := h
theorem rd_yes {Rb : Bool → Hp → Prop} (h : Rb true H) : tYes σ H Rb := h
theorem Same.new {H H' : Hp} {p : Addr} {o : HO} (s : Same H H') (h : H' p = none) : Same H (upd H' p o) := fun b u e => by rw [upd_ne (ne_of_none (s b u e) h)]; exact s b u e
theorem Same.mut {H H' : Hp} {p : Addr} {o : HO} (s : Same H H') (h : H p = none) : Same H (upd H' p o) := fun b u e => by rw [upd_ne (ne_of_none e h)]; exact s b u e
theorem lk_new {o u : HO} {p : Addr} (h : H p = none) (e : H a = some u) : upd H p o a = some u := by rw [upd_ne (ne_of_none e h)]; exact e
theorem lk_ne {o u : HO} {p : Addr} (h : a ≠ p) (e : H a = some u) : upd H p o a = some u := by rw [upd_ne h]; exact e
theorem Same.tup {H H' : Hp} {K : PySem.W.Frag} {a : Addr} {xs : List V} (e : Same H H') (h : SqT K H a xs) : SqT K H' a xs := by
  rcases h with (h | ⟨o, h⟩) | h
  · exact .inl (.inl (e _ _ h))
  · exact .inl (.inr ⟨o, e _ _ h⟩)
  · exact .inr h
end
end L2.Px
set_option Elab.async false
set_option linter.all false
set_option maxRecDepth 100000
set_option maxHeartbeats 1000000
namespace L2.Px
open PySem PySem.Spec PyProof.Rows StX ClX
/-- the property f of the class at C -/
def DefP (K : PySem.W.Frag) (C : Addr) (f qual : Str) (st : Stmt) : Prop := ∃ p g fd, Fun K f qual st g fd ∧ PropOf K C f p g ∧ Binds K fd ["self"] []
def POk (P : Program) (w : World) (K : PySem.W.Frag) (mg : Str → Option Value) (base : Heap) (CX : CXT) (k : Nat) (C : Addr) (f : Str) (sp : Sp) : Prop :=
  ∃ p g fd, FnOk P w K mg base CX k g fd ["self"] sp ∧ PropOf K C f p g ∧ Binds K fd ["self"] []
/-- the classmethod m of the class at C -/
def DefC (K : PySem.W.Frag) (C : Addr) (m qual : Str) (st : Stmt) (ps : List Str) : Prop := ∃ mc p g fd, Fun K m qual st g fd ∧ CRead K C mc ∧ CMet K C mc m p g ∧ Binds K fd ps []
def COk (P : Program) (w : World) (K : PySem.W.Frag) (mg : Str → Option Value) (base : Heap) (CX : CXT) (k : Nat) (C : Addr) (m : Str) (sp : Sp) : Prop :=
  ∃ mc p g, FnR P w K mg base CX k g sp ∧ CRead K C mc ∧ CMet K C mc m p g
/-- __init__ of the class at C, all its parameters plain -/
def DefK (K : PySem.W.Frag) (C : Addr) (qual : Str) (st : Stmt) (ps : List Str) : Prop := ∃ f fd, Fun K "__init__" qual st f fd ∧ Mk K C f ∧ Binds K fd ps []
/-- __init__(self, *v) of the class at C -/
def DefKS (K : PySem.W.Frag) (C : Addr) (qual : Str) (st : Stmt) (ps : List Str) (pv : Str) : Prop := ∃ f fd, Fun K "__init__" qual st f fd ∧ Mk K C f ∧
  ∀ us rest : List Value, us.length = ps.length → bindArgs fd ⟨us ++ rest, []⟩ = (newTuple rest >>= fun t => pure (ps.zip us ++ [(pv, t)]))
/-- a def f(.., *v) -/
def DefGS (K : PySem.W.Frag) (mg : Str → Option Value) (x : Str) (st : Stmt) (ps : List Str) (pv : Str) : Prop := ∃ f fd, Fun K x x st f fd ∧ mg x = some (.ref f) ∧
  ∀ us rest : List Value, us.length = ps.length → bindArgs fd ⟨us ++ rest, []⟩ = (newTuple rest >>= fun t => pure (ps.zip us ++ [(pv, t)]))
/-- a def whose last parameters have defaults -/
def DefGD (K : PySem.W.Frag) (mg : Str → Option Value) (x : Str) (st : Stmt) (ps : List Str) (dvs : List V) : Prop := ∃ f fd ds, Fun K x x st f fd ∧ mg x = some (.ref f) ∧ Binds K fd ps ds ∧ Vals dvs ds
section
variable {P : Program} {w : World} {K : PySem.W.Frag} {mg : Str → Option Value} {base : Heap} {CX : CXT} {k : Nat} {f C : Addr} {fd : FuncData} {ps : List Str} {sp : Sp} {x m qual : Str} {st : Stmt}
theorem DefP.ok {N : List Str} (D : DefP K C m qual st) (S : FnScope N ["self"] (defScope st)) (len : ∀ vs H Q E, sp vs H Q E → vs.length = 1)
    (hbody : ∀ (f : Addr) (cdv : Value) (A : Around) (outer : List Env) (s : Shared) (H : Hp) (vs : List V) (Q : VK) (E : XK), Room k (A.deeper (envOfC qual (defScope st) s.heap.objs.size f cdv)) → sp vs H Q E →
      ∃ t, PSs (cxOf CX0 P w K mg base N qual (defScope st) f cdv A outer s H E).nox (defBody st) t ∧ t { nx := fun _ H' => Q .non H', rt := Q } (start N vs) H) : POk P w K mg base CX0 (k + 1) C m sp := by
  obtain ⟨p, g, fd, F, hp, b⟩ := D
  exact ⟨p, g, fd, F.ok S len fun cdv A outer s H vs Q E hr h => hbody g cdv A outer s H vs Q E hr h, hp, b⟩
theorem DefC.ok {N : List Str} (D : DefC K C m qual st ps) (S : FnScope N ps (defScope st)) (len : ∀ vs H Q E, sp vs H Q E → vs.length = ps.length)
    (hbody : ∀ (f : Addr) (cdv : Value) (A : Around) (outer : List Env) (s : Shared) (H : Hp) (vs : List V) (Q : VK) (E : XK), Room k (A.deeper (envOfC qual (defScope st) s.heap.objs.size f cdv)) → sp vs H Q E →
      ∃ t, PSs (cxOf CX0 P w K mg base N qual (defScope st) f cdv A outer s H E).nox (defBody st) t ∧ t { nx := fun _ H' => Q .non H', rt := Q } (start N vs) H) : COk P w K mg base CX0 (k + 1) C m sp := by
  obtain ⟨mc, p, g, fd, F, r, c, b⟩ := D
  exact ⟨mc, p, g, FnOk.toR (F.ok S len fun cdv A outer s H vs Q E hr h => hbody g cdv A outer s H vs Q E hr h) b, r, c⟩
theorem DefK.ok {N : List Str} (D : DefK K C qual st ps) (S : FnScope N ps (defScope st)) (len : ∀ vs H Q E, sp vs H Q E → vs.length = ps.length)
    (hbody : ∀ (f : Addr) (cdv : Value) (A : Around) (outer : List Env) (s : Shared) (H : Hp) (vs : List V) (Q : VK) (E : XK), Room k (A.deeper (envOfC qual (defScope st) s.heap.objs.size f cdv)) → sp vs H Q E →
      ∃ t, PSs (cxOf CX0 P w K mg base N qual (defScope st) f cdv A outer s H E).nox (defBody st) t ∧ t { nx := fun _ H' => Q .non H', rt := Q } (start N vs) H) : KOk P w K mg base CX0 (k + 1) C sp := by
  obtain ⟨f, fd, F, M, b⟩ := D
  exact ⟨f, FnOk.toR (F.ok S len fun cdv A outer s H vs Q E hr h => hbody f cdv A outer s H vs Q E hr h) b, M⟩
/-- the star promise around the body's own -/
def spStar (n : Nat) (sp : Sp) : Sp := fun vs H Q E => ∃ ws rest, vs = ws ++ rest ∧ ws.length = n ∧ rest.length ≤ sizeLine ∧ ∀ p, H p = Option.none → sp (ws ++ [V.ref p]) (upd H p (.tup rest)) Q E
theorem DefKS.ok {N : List Str} {pv : Str} (D : DefKS K C qual st ps pv) (S : FnScope N (ps ++ [pv]) (defScope st))
    (hbody : ∀ (f : Addr) (cdv : Value) (A : Around) (outer : List Env) (s : Shared) (H : Hp) (vs : List V) (Q : VK) (E : XK), Room k (A.deeper (envOfC qual (defScope st) s.heap.objs.size f cdv)) → sp vs H Q E →
      ∃ t, PSs (cxOf CX0 P w K mg base N qual (defScope st) f cdv A outer s H E).nox (defBody st) t ∧ t { nx := fun _ H' => Q .non H', rt := Q } (start N vs) H) : KOk P w K mg base CX0 (k + 1) C (spStar ps.length sp) := by
  obtain ⟨f, fd, F, M, hb⟩ := D
  obtain ⟨oc, od, kV, doc, pm, an, cdv, ct, osl, rfl, lk, hcd⟩ := F.ex
  refine ⟨f, fn_star (sp := sp) lk hcd S cxUp_none hb fun A outer s H vs Q E hr h => ?_, M⟩
  obtain ⟨t, ht, q⟩ := hbody f cdv A outer s H vs Q E hr h
  exact ⟨t, ht.nox, q⟩
theorem DefGS.ok {N : List Str} {pv : Str} (D : DefGS K mg x st ps pv) (S : FnScope N (ps ++ [pv]) (defScope st))
    (hbody : ∀ (f : Addr) (cdv : Value) (A : Around) (outer : List Env) (s : Shared) (H : Hp) (vs : List V) (Q : VK) (E : XK), Room k (A.deeper (envOfC x (defScope st) s.heap.objs.size f cdv)) → sp vs H Q E →
      ∃ t, PSs (cxOf CX0 P w K mg base N x (defScope st) f cdv A outer s H E).nox (defBody st) t ∧ t { nx := fun _ H' => Q .non H', rt := Q } (start N vs) H) : GOk P w K mg base CX0 (k + 1) x (spStar ps.length sp) := by
  obtain ⟨f, fd, F, a, hb⟩ := D
  obtain ⟨oc, od, kV, doc, pm, an, cdv, ct, osl, rfl, lk, hcd⟩ := F.ex
  refine ⟨f, fn_star (sp := sp) lk hcd S cxUp_none hb fun A outer s H vs Q E hr h => ?_, a, F.kp⟩
  obtain ⟨t, ht, q⟩ := hbody f cdv A outer s H vs Q E hr h
  exact ⟨t, ht.nox, q⟩
theorem DefGD.ok {N : List Str} {dvs : List V} (D : DefGD K mg x st ps dvs) (S : FnScope N ps (defScope st)) (len : ∀ vs H Q E, sp vs H Q E → vs.length = ps.length)
    (hbody : ∀ (f : Addr) (cdv : Value) (A : Around) (outer : List Env) (s : Shared) (H : Hp) (vs : List V) (Q : VK) (E : XK), Room k (A.deeper (envOfC x (defScope st) s.heap.objs.size f cdv)) → sp vs H Q E →
      ∃ t, PSs (cxOf CX0 P w K mg base N x (defScope st) f cdv A outer s H E).nox (defBody st) t ∧ t { nx := fun _ H' => Q .non H', rt := Q } (start N vs) H) : GOk P w K mg base CX0 (k + 1) x (fun vs => sp (vs ++ dvs)) := by
  obtain ⟨f, fd, ds, F, a, b, hd⟩ := D
  exact ⟨f, FnOk.toR1 (F.ok S len fun cdv A outer s H vs Q E hr h => hbody f cdv A outer s H vs Q E hr h) b hd, a, F.kp⟩
end
section
variable {X : Cx} {CX : CXT} {k : Nat} {C : Addr} {sp : Sp} {E : XK} {f m : Str} {e o : Expr} {es : List Expr} {te ta : TE} {t : TA} {p pos apos : Pos}
theorem pe_p (he : PE X e ta) (c : Cls X.K C) (G : POk X.prog X.w X.K X.mg X.base CX k C f sp) (hr : Room (k + 1) X.A) (hx : Passes CX X.nox E) (hab : attributeBase e f X.env (eval e X.env) = eval e X.env := by rfl) : PE X (.Attribute e f pos) (tProp C sp [] E ta) :=
  let ⟨_, _, _, F, hp, b⟩ := G
  pe_prop he c hp F hr b .nil hx hab
theorem pe_c {pl : Sem Bool} (he : PE X o ta) (G : COk X.prog X.w X.K X.mg X.base CX k C m sp) (hr : Room k X.A) (hx : Passes CX X E) (ha : PA X (e :: es) t)
    (hst : starEach (e :: es) X.env = (false, eval e X.env) :: starEach es X.env := by rfl) (hpl : (backTo pos (starEach es X.env)).any (·.1) = false := by rfl)
    (ht : eval (.Call (.Attribute o m apos) (e :: es) [] pos) X.env = (do
      let ov ← eval o X.env
      standAt apos.atName
      let (f, first) ← holding [ov] (getMethod ov m pl)
      callWith pos f first (backTo pos (starEach (e :: es) X.env)) (backToKw pos (keywordEach [] X.env))) := by rfl) :
    PE X (.Call (.Attribute o m apos) (e :: es) [] pos) (tCMeth C sp E ta t) :=
  let ⟨_, _, _, F, r, c⟩ := G
  pe_cmeth (pl := pl) he r c F hr hx ha hst hpl ht
theorem rd_prop {σ : St} {H : Hp} {Q : VK} (h : ta σ H fun x H1 => ∃ a dx fs, x = .ref a ∧ H1 a = some (.ins C dx fs) ∧ sp [.ref a] H1 Q E) : tProp C sp [] E ta σ H Q := h
theorem rd_prop_at {a : Addr} {H : Hp} {Q : VK} (i : InsA H a C) (h : sp [.ref a] H Q E) : ∃ a' dx fs, V.ref a = .ref a' ∧ H a' = some (.ins C dx fs) ∧ sp [.ref a'] H Q E := let ⟨dx, fs, e⟩ := i; ⟨a, dx, fs, rfl, e, h⟩
theorem rd_cmeth {σ : St} {H : Hp} {Q : VK} (h : ta σ H fun x H1 => x = .ref C ∧ t σ H1 fun vs H2 => sp (.ref C :: vs) H2 Q E) : tCMeth C sp E ta t σ H Q := h
/-- calling an instance -/
def OOk (P : Program) (w : World) (K : PySem.W.Frag) (mg : Str → Option Value) (base : Heap) (CX : CXT) (k : Nat) (C : Addr) (sp : Sp) : Prop := ∃ g, FnR P w K mg base CX k g sp ∧ CallO K C g
def tO (C : Addr) (sp : Sp) (E : XK) (tf : TE) (t : TA) : TE := fun σ H Q => tf σ H fun y H1 => ∃ a, y = V.ref a ∧ t σ H1 fun vs H2 => InsA H2 a C ∧ sp (V.ref a :: vs) H2 Q E
theorem rd_o {σ : St} {H : Hp} {Q : VK} (h : ta σ H fun y H1 => ∃ a, y = V.ref a ∧ t σ H1 fun vs H2 => InsA H2 a C ∧ sp (V.ref a :: vs) H2 Q E) : tO C sp E ta t σ H Q := h
end
end L2.Px
namespace L2.Px
open PySem PySem.Spec PyProof.Rows StX ClX
def DefX (K : PySem.W.Frag) (R : Addr → Prop) (m qual : Str) (st : Stmt) (ps : List Str) : Prop := ∃ f fd, Fun K m qual st f fd ∧ R f ∧ Binds K fd ps []
def XOk (P : Program) (w : World) (K : PySem.W.Frag) (mg : Str → Option Value) (base : Heap) (CX : CXT) (k : Nat) (R : Addr → Prop) (sp : Sp) : Prop := ∃ f, FnR P w K mg base CX k f sp ∧ R f
section
variable {P : Program} {w : World} {K : PySem.W.Frag} {mg : Str → Option Value} {base : Heap} {CX : CXT} {k : Nat} {f C : Addr} {fd : FuncData} {ps : List Str} {sp : Sp} {x m qual : Str} {st : Stmt} {R : Addr → Prop}
theorem DefX.ok {N : List Str} (D : DefX K R m qual st ps) (S : FnScope N ps (defScope st)) (len : ∀ vs H Q E, sp vs H Q E → vs.length = ps.length)
    (hbody : ∀ (f : Addr) (cdv : Value) (A : Around) (outer : List Env) (s : Shared) (H : Hp) (vs : List V) (Q : VK) (E : XK), Room k (A.deeper (envOfC qual (defScope st) s.heap.objs.size f cdv)) → sp vs H Q E →
      ∃ t, PSs (cxOf CX0 P w K mg base N qual (defScope st) f cdv A outer s H E).nox (defBody st) t ∧ t { nx := fun _ H' => Q .non H', rt := Q } (start N vs) H) : XOk P w K mg base CX0 (k + 1) R sp := by
  obtain ⟨f, fd, F, r, b⟩ := D
  exact ⟨f, FnOk.toR (F.ok S len fun cdv A outer s H vs Q E hr h => hbody f cdv A outer s H vs Q E hr h) b, r⟩
end
section
variable {X : Cx} {CX : CXT} {k : Nat} {C : Addr} {sp : Sp} {E : XK} {a b : Expr} {ta tb : TE} {pos : Pos}
theorem rd_own {p q : Addr} {H : Hp} {Q : VK} (i : InsA H p C) (j : InsA H q C) (h : sp [.ref p, .ref q] H Q E) : rOwn C sp E (.ref p) (.ref q) H Q := ⟨p, q, rfl, rfl, i, j, h⟩
theorem rd_ownI {p : Addr} {z : Int} {H : Hp} {Q : VK} (i : InsA H p C) (h : sp [.ref p, .int z] H Q E) : rOwnI C sp E (.ref p) (.int z) H Q := ⟨p, z, rfl, rfl, i, h⟩
end
end L2.Px
set_option Elab.async false
set_option linter.all false
namespace L2.Px
open PySem L2 TL
inductive Stp where
  | wr (w : Str)
  | pa (f l t : Nat)
deriving DecidableEq
def len1 : Stp → Nat
  | .wr w => w.length
  | .pa f l t => (l - f + 1) * t
def sz : List Stp → Nat
  | [] => 0
  | s :: r => len1 s + sz r
def ty1 : Stp → List Nat
  | .wr w => tl w
  | .pa _ _ _ => []
def tyL : List Stp → List Nat
  | [] => []
  | s :: r => ty1 s ++ tyL r
def okStep (n : Nat) : Stp → Prop
  | .wr w => 1 ≤ w.length ∧ w.length ≤ 20 ∧ ∀ c ∈ tl w, 97 ≤ c ∧ c ≤ 122
  | .pa f l t => f ≤ l ∧ l < n ∧ 1 ≤ t ∧ t ≤ 1000000000
def okFrom : Nat → List Stp → Prop
  | _, [] => True
  | n, s :: r => okStep n s ∧ n + len1 s ≤ 1000000000000000000 ∧ okFrom (n + len1 s) r
def stepK (q : List Nat × Nat) : Stp → List Nat × Nat
  | .wr w => (q.1 ++ List.range' q.2 w.length, q.2 + w.length)
  | .pa f l t => (q.1 ++ (List.replicate t ((q.1.drop f).take (l - f + 1))).flatten, q.2)
def run (ss : List Stp) : List Nat × Nat := ss.foldl stepK ([], 0)
/-- the keys of all places -/
def ks (ss : List Stp) : List Nat := (run ss).1
theorem sz_append : ∀ (a b : List Stp), sz (a ++ b) = sz a + sz b
  | [], b => by simp [sz]
  | s :: a, b => by simp only [List.cons_append, sz]; rw [sz_append a b]; omega
theorem tyL_append : ∀ (a b : List Stp), tyL (a ++ b) = tyL a ++ tyL b
  | [], b => by simp [tyL]
  | s :: a, b => by simp only [List.cons_append, tyL]; rw [tyL_append a b, List.append_assoc]
theorem okFrom_append : ∀ (n : Nat) (a b : List Stp), okFrom n (a ++ b) ↔ okFrom n a ∧ okFrom (n + sz a) b
  | n, [], b => by simp [okFrom, sz]
  | n, s :: a, b => by
    simp only [List.cons_append, okFrom, sz]
    rw [okFrom_append (n + len1 s) a b, show n + (len1 s + sz a) = n + len1 s + sz a by omega]
    constructor
    · rintro ⟨h1, h2, h3, h4⟩; exact ⟨⟨h1, h2, h3⟩, h4⟩
    · rintro ⟨⟨h1, h2, h3⟩, h4⟩; exact ⟨h1, h2, h3, h4⟩
theorem take_snoc {α : Type} {l : List α} {j : Nat} {s : α} (h : l[j]? = some s) : l.take (j + 1) = l.take j ++ [s] := by
  rw [List.take_add_one, h]; rfl
theorem sz_take {ss : List Stp} {j : Nat} {s : Stp} (h : ss[j]? = some s) : sz (ss.take (j + 1)) = sz (ss.take j) + len1 s := by
  rw [take_snoc h, sz_append]; simp [sz]
theorem tyL_take {ss : List Stp} {j : Nat} {s : Stp} (h : ss[j]? = some s) : tyL (ss.take (j + 1)) = tyL (ss.take j) ++ ty1 s := by
  rw [take_snoc h, tyL_append]; simp [tyL]
theorem ok_at {ss : List Stp} {j : Nat} {s : Stp} (ok : okFrom 0 ss) (h : ss[j]? = some s) : okStep (sz (ss.take j)) s ∧ sz (ss.take j) + len1 s ≤ 1000000000000000000 := by
  have e : ss = ss.take j ++ (s :: ss.drop (j + 1)) := by
    have hj : j < ss.length := (List.getElem?_eq_some_iff.mp h).1
    have hs : ss[j] = s := (List.getElem?_eq_some_iff.mp h).2
    rw [← hs, ← List.drop_eq_getElem_cons hj, List.take_append_drop]
  rw [e, okFrom_append] at ok
  obtain ⟨_, h1, h2, _⟩ := ok
  simp only [Nat.zero_add] at h1 h2
  exact ⟨h1, h2⟩
theorem ok_take {ss : List Stp} (ok : okFrom 0 ss) (j : Nat) : okFrom 0 (ss.take j) := by
  rw [← List.take_append_drop j ss, okFrom_append] at ok
  exact ok.1
theorem sz_le {ss : List Stp} (ok : okFrom 0 ss) : sz ss ≤ 1000000000000000000 := by
  rcases Nat.eq_zero_or_pos ss.length with h | h
  · rw [List.length_eq_zero_iff.mp h]; simp [sz]
  · have hj : ss[ss.length - 1]? = some (ss[ss.length - 1]'(by omega)) := by rw [List.getElem?_eq_getElem]
    have := (ok_at ok hj).2
    rw [← sz_take hj, show ss.length - 1 + 1 = ss.length by omega, List.take_length] at this
    exact this
theorem run_snd_from : ∀ (ss : List Stp) (q : List Nat × Nat), (ss.foldl stepK q).2 = q.2 + (tyL ss).length
  | [], q => by simp [tyL]
  | .wr w :: r, q => by
    simp only [List.foldl_cons, tyL, List.length_append, ty1]
    rw [run_snd_from r]; simp only [stepK]; rw [len_tl w]; omega
  | .pa f l t :: r, q => by
    simp only [List.foldl_cons, tyL, List.length_append, ty1]
    rw [run_snd_from r]; simp [stepK]
theorem run_snd (ss : List Stp) : (run ss).2 = (tyL ss).length := by
  unfold run; rw [run_snd_from]; simp
theorem length_flat_rep {α : Type} (t : Nat) (l : List α) : (List.replicate t l).flatten.length = t * l.length := by
  induction t with
  | zero => simp
  | succ t ih => rw [List.replicate_succ, List.flatten_cons, List.length_append, ih, Nat.succ_mul]; omega
theorem stepK_len {q : List Nat × Nat} {s : Stp} (h : okStep q.1.length s) : (stepK q s).1.length = q.1.length + len1 s := by
  cases s with
  | wr w => simp [stepK, len1]
  | pa f l t =>
    obtain ⟨h1, h2, _, _⟩ := h
    simp only [stepK, len1, List.length_append, length_flat_rep, List.length_take, List.length_drop]
    rw [Nat.min_eq_left (by omega), Nat.mul_comm]
theorem ks_len_from : ∀ (ss : List Stp) (q : List Nat × Nat), okFrom q.1.length ss → (ss.foldl stepK q).1.length = q.1.length + sz ss
  | [], q, _ => by simp [sz]
  | s :: r, q, ok => by
    obtain ⟨h1, h2, h3⟩ := ok
    have e := stepK_len h1
    rw [List.foldl_cons, ks_len_from r _ (by rw [e]; exact h3), e]
    simp only [sz]; omega
theorem ks_len {ss : List Stp} (ok : okFrom 0 ss) : (ks ss).length = sz ss := by
  have := ks_len_from ss ([], 0) ok
  simpa [ks, run] using this
/-- all keys are keys -/
theorem stepK_lt {q : List Nat × Nat} {s : Stp} (h : ∀ k ∈ q.1, k < q.2) : ∀ k ∈ (stepK q s).1, k < (stepK q s).2 := by
  cases s with
  | wr w =>
    intro k hk
    simp only [stepK, List.mem_append, List.mem_range'_1] at hk ⊢
    rcases hk with hk | hk
    · have := h k hk; omega
    · omega
  | pa f l t =>
    intro k hk
    simp only [stepK, List.mem_append, List.mem_flatten, List.mem_replicate] at hk ⊢
    rcases hk with hk | ⟨l', ⟨_, rfl⟩, hk⟩
    · exact h k hk
    · exact h k (List.mem_of_mem_drop (List.mem_of_mem_take hk))
theorem run_lt : ∀ (ss : List Stp) (q : List Nat × Nat), (∀ k ∈ q.1, k < q.2) → ∀ k ∈ (ss.foldl stepK q).1, k < (ss.foldl stepK q).2
  | [], q, h => h
  | s :: r, q, h => run_lt r _ (stepK_lt h)
theorem ks_lt {ss : List Stp} {k : Nat} (h : k ∈ ks ss) : k < (tyL ss).length := by
  have := run_lt ss ([], 0) (by simp) k h
  rw [← run_snd]; exact this
end L2.Px
set_option Elab.async false
set_option linter.all false
set_option maxRecDepth 100000
set_option maxHeartbeats 1000000
namespace L2.Px
open PySem PySem.Spec PyProof.Rows StX TL
def isInt (lo hi : Int) : V → Bool
  | .int i => decide (lo ≤ i ∧ i ≤ hi)
  | _ => false
def isLet : V → Bool
  | .str x => match tl x with
    | [c] => decide (97 ≤ c ∧ c ≤ 122)
    | _ => false
  | _ => false
def isWd : V → Bool
  | .str x => decide (1 ≤ (tl x).length ∧ (tl x).length ≤ 20 ∧ ∀ c ∈ tl x, 97 ≤ c ∧ c ≤ 122)
  | _ => false
def intOf : V → Int
  | .int i => i
  | _ => 0
def isSt (n : Int) : List V → Bool
  | [.str z, v] => decide (z = "write") && isWd v
  | [.str z, f, l, t] => decide (z = "paste") && (isInt 0 (n - 1) l && isInt 0 (intOf l) f && isInt 1 1000000000 t)
  | _ => false
def sp_is_integer : Sp := fun vs H Q _ => ∃ v lo hi, vs = [v, .int lo, .int hi] ∧ NoSeq v ∧ Q (.bl (isInt lo hi v)) H
def sp_is_letter : Sp := fun vs H Q _ => ∃ v, vs = [v] ∧ NoSeq v ∧ (∀ x, v = .str x → x.length ≤ sizeLine) ∧ Q (.bl (isLet v)) H
def sp_is_word : Sp := fun vs H Q _ => ∃ v, vs = [v] ∧ NoSeq v ∧ (∀ x, v = .str x → x.length ≤ sizeLine) ∧ ∀ H', Same H H' → Q (.bl (isWd v)) H'
def mkS (l : List Nat) : Str := ⟨l.toArray⟩
theorem tl_mkS (l : List Nat) : tl (mkS l) = l := rfl
theorem mkS_tl (x : Str) : mkS (tl x) = x := mk_tl x
theorem mkS_len (l : List Nat) : (mkS l).length = l.length := by rw [len_tl, tl_mkS]
theorem mkS_app (a b : List Nat) : mkS a ++ mkS b = mkS (a ++ b) := ext_tl (by rw [tl_append, tl_mkS, tl_mkS, tl_mkS])
def partF (s n : Int) (t : Bool) (f l : Int) : List (Str × V) := putF "last" (.int l) (putF "first" (.int f) (putF "is_typed" (.bl t) (putF "length" (.int n) (putF "start" (.int s) []))))
def textF (m : Addr) (y : Str) (p : Addr) (n : Int) : List (Str × V) := putF "total" (.int n) (putF "parts" (.ref p) (putF "typed" (.str y) (putF "made" (.ref m) [])))
section
variable {s n f l : Int} {t : Bool} {m p : Addr} {y x : Str}
theorem partF_start : (partF s n t f l).lookup ("start" : Str) = some (.int s) := by
  unfold partF; rw [lookup_putF, if_neg (by decide +kernel), lookup_putF, if_neg (by decide +kernel), lookup_putF, if_neg (by decide +kernel), lookup_putF, if_neg (by decide +kernel), lookup_putF, if_pos rfl]
theorem partF_length : (partF s n t f l).lookup ("length" : Str) = some (.int n) := by
  unfold partF; rw [lookup_putF, if_neg (by decide +kernel), lookup_putF, if_neg (by decide +kernel), lookup_putF, if_neg (by decide +kernel), lookup_putF, if_pos rfl]
theorem textF_made : (textF m y p n).lookup ("made" : Str) = some (.ref m) := by
  unfold textF; rw [lookup_putF, if_neg (by decide +kernel), lookup_putF, if_neg (by decide +kernel), lookup_putF, if_neg (by decide +kernel), lookup_putF, if_pos rfl]
theorem textF_no (h : x ≠ "total" ∧ x ≠ "parts" ∧ x ≠ "typed" ∧ x ≠ "made") : (textF m y p n).lookup x = none := by
  unfold textF; rw [lookup_putF, if_neg h.1, lookup_putF, if_neg h.2.1, lookup_putF, if_neg h.2.2.1, lookup_putF, if_neg h.2.2.2]; rfl
theorem putF_len {fs : List (Str × V)} {k : Nat} {f : Str} {v : V} (h : fs.length ≤ k) : (putF f v fs).length ≤ k + 1 := Nat.le_trans (length_putF f v fs) (Nat.succ_le_succ h)
end
/-- a written step as a tuple's items -/
def stV : Stp → List V
  | .wr w => [.str "write", .str w]
  | .pa f l t => [.str "paste", .int f, .int l, .int t]
def StepAt (K : PySem.W.Frag) (H : Hp) (v : V) (s : Stp) : Prop := ∃ a, v = .ref a ∧ SqT K H a (stV s)
def StepsAt (K : PySem.W.Frag) (H : Hp) (ms : List V) (ss : List Stp) : Prop := ms.length = ss.length ∧ ∀ (j : Nat) s, ss[j]? = some s → ∃ v, ms[j]? = some v ∧ StepAt K H v s
/-- the part of step j -/
def PartAt (CP : Addr) (H : Hp) (v : V) (n y : Nat) : Stp → Prop
  | .wr w => ∃ p dx, v = .ref p ∧ H p = some (.ins CP dx (partF n w.length true y 0))
  | .pa f l t => ∃ p dx, v = .ref p ∧ H p = some (.ins CP dx (partF n (((l - f + 1) * t : Nat)) false f l))
def PartsAt (CP : Addr) (H : Hp) (ps : List V) (ss : List Stp) : Prop := ps.length = ss.length ∧ ∀ (j : Nat) s, ss[j]? = some s → ∃ v, ps[j]? = some v ∧ PartAt CP H v (sz (ss.take j)) (tyL (ss.take j)).length s
structure TxI where
  ss : List Stp
  dx : Addr
  m : Addr
  pl : Addr
  ms : List V
  ps : List V
structure TextAt (K : PySem.W.Frag) (CT CP : Addr) (H : Hp) (a : Addr) (t : TxI) : Prop where
  ins : H a = some (.ins CT t.dx (textF t.m (mkS (tyL t.ss)) t.pl (sz t.ss)))
  made : SqT K H t.m t.ms
  stp : StepsAt K H t.ms t.ss
  pls : H t.pl = some (.lst t.ps)
  prt : PartsAt CP H t.ps t.ss
  ok : okFrom 0 t.ss
  few : t.ss.length ≤ 30
section
variable {K : PySem.W.Frag} {CT CP : Addr} {H H' : Hp} {a : Addr} {t : TxI} {v : V} {s : Stp} {ms ps : List V} {ss : List Stp} {n y : Nat}
theorem StepAt.mono (e : Same H H') (h : StepAt K H v s) : StepAt K H' v s := let ⟨a, ev, q⟩ := h; ⟨a, ev, Same.tup e q⟩
theorem StepsAt.mono (e : Same H H') (h : StepsAt K H ms ss) : StepsAt K H' ms ss := ⟨h.1, fun j s q => let ⟨v, a, b⟩ := h.2 j s q; ⟨v, a, b.mono e⟩⟩
theorem PartAt.mono (e : Same H H') (h : PartAt CP H v n y s) : PartAt CP H' v n y s := by
  cases s with
  | wr w => obtain ⟨p, dx, ev, q⟩ := h; exact ⟨p, dx, ev, e _ _ q⟩
  | pa f l t => obtain ⟨p, dx, ev, q⟩ := h; exact ⟨p, dx, ev, e _ _ q⟩
theorem PartsAt.mono (e : Same H H') (h : PartsAt CP H ps ss) : PartsAt CP H' ps ss := ⟨h.1, fun j s q => let ⟨v, a, b⟩ := h.2 j s q; ⟨v, a, b.mono e⟩⟩
theorem TextAt.mono (h : TextAt K CT CP H a t) (e : Same H H') : TextAt K CT CP H' a t := ⟨e _ _ h.ins, Same.tup e h.made, h.stp.mono e, e _ _ h.pls, h.prt.mono e, h.ok, h.few⟩
theorem TextAt.insA (h : TextAt K CT CP H a t) : InsA H a CT := ⟨_, _, h.ins⟩
theorem TextAt.insM {m : Str} (h : TextAt K CT CP H a t) (hm : m ≠ "total" ∧ m ≠ "parts" ∧ m ≠ "typed" ∧ m ≠ "made" := by decide +kernel) : InsM H a CT m := ⟨_, _, h.ins, textF_no hm⟩
theorem stV_noseq (s : Stp) : ∀ v ∈ stV s, NoSeq v := by
  cases s <;> (intro v hv; simp only [stV, List.mem_cons, List.not_mem_nil, or_false] at hv; rcases hv with rfl | hv) <;> first | trivial | (rcases hv with rfl | hv <;> first | trivial | (rcases hv with rfl | rfl <;> trivial)) | (subst hv; trivial)
end
section
variable (K : PySem.W.Frag) (CT CP : Addr)
def sp_Part_init : Sp := fun vs H Q _ => ∃ x dx s n t f l, vs = [.ref x, .int s, .int n, .bl t, .int f, .int l] ∧ H x = some (.ins CP dx []) ∧ Q .non (upd H x (.ins CP dx (partF s n t f l)))
/-- Text(*steps) of valid steps: all that stood stands, x is the text -/
def sp_Text_init : Sp := fun vs H Q _ => ∃ x dx m rs ss, vs = [.ref x, .ref m] ∧ H x = some (.ins CT dx []) ∧ SqT K H m rs ∧ StepsAt K H rs ss ∧ okFrom 0 ss ∧ ss.length ≤ 30 ∧
  ∀ H' t, (∀ b o, b ≠ x → H b = some o → H' b = some o) → TextAt K CT CP H' x t → t.ss = ss → t.dx = dx → Q .non H'
end
end L2.Px
namespace L2.Px
open PySem PySem.Spec PyProof.Rows StX TL
section
variable {K : PySem.W.Frag} {H : Hp} {Q : VK} {T : String}
theorem rd_isi {x c : V} {t u : Value} {b : Bool} (k : ClsV c u) (ty : TyX K H x t) (e : PySem.W.kitOne K t u = some b) (q : Q (.bl b) H) : rIsi K [x, c] H Q := ⟨x, c, t, u, b, rfl, k, ty, e, q⟩
end
end L2.Px
namespace L2.Px
open PySem PySem.Spec PyProof.Rows StX TL
section
variable {K : PySem.W.Frag} {H : Hp} {Q : VK}
theorem rd_isi_int_int {i : Int} (q : Q (.bl true) H) : rIsi K [(.int i), .ty "int"] H Q := rd_isi (.ty _) (TyX.base (.int i)) (kit_ty (by decide +kernel)) q
theorem rd_isi_int_bool {i : Int} (q : Q (.bl false) H) : rIsi K [(.int i), .ty "bool"] H Q := rd_isi (.ty _) (TyX.base (.int i)) (kit_ty (by decide +kernel)) q
theorem rd_isi_int_str {i : Int} (q : Q (.bl false) H) : rIsi K [(.int i), .ty "str"] H Q := rd_isi (.ty _) (TyX.base (.int i)) (kit_ty (by decide +kernel)) q
theorem rd_isi_int_list {i : Int} (q : Q (.bl false) H) : rIsi K [(.int i), .ty "list"] H Q := rd_isi (.ty _) (TyX.base (.int i)) (kit_ty (by decide +kernel)) q
theorem rd_isi_int_tuple {i : Int} (q : Q (.bl false) H) : rIsi K [(.int i), .ty "tuple"] H Q := rd_isi (.ty _) (TyX.base (.int i)) (kit_ty (by decide +kernel)) q
theorem rd_isi_bl_int {c : Bool} (q : Q (.bl true) H) : rIsi K [(.bl c), .ty "int"] H Q := rd_isi (.ty _) (TyX.base (.bl c)) (kit_ty (by decide +kernel)) q
theorem rd_isi_bl_bool {c : Bool} (q : Q (.bl true) H) : rIsi K [(.bl c), .ty "bool"] H Q := rd_isi (.ty _) (TyX.base (.bl c)) (kit_ty (by decide +kernel)) q
theorem rd_isi_bl_str {c : Bool} (q : Q (.bl false) H) : rIsi K [(.bl c), .ty "str"] H Q := rd_isi (.ty _) (TyX.base (.bl c)) (kit_ty (by decide +kernel)) q
theorem rd_isi_bl_list {c : Bool} (q : Q (.bl false) H) : rIsi K [(.bl c), .ty "list"] H Q := rd_isi (.ty _) (TyX.base (.bl c)) (kit_ty (by decide +kernel)) q
theorem rd_isi_bl_tuple {c : Bool} (q : Q (.bl false) H) : rIsi K [(.bl c), .ty "tuple"] H Q := rd_isi (.ty _) (TyX.base (.bl c)) (kit_ty (by decide +kernel)) q
theorem rd_isi_str_int {x : Str} (q : Q (.bl false) H) : rIsi K [(.str x), .ty "int"] H Q := rd_isi (.ty _) (TyX.base (.str x)) (kit_ty (by decide +kernel)) q
theorem rd_isi_str_bool {x : Str} (q : Q (.bl false) H) : rIsi K [(.str x), .ty "bool"] H Q := rd_isi (.ty _) (TyX.base (.str x)) (kit_ty (by decide +kernel)) q
theorem rd_isi_str_str {x : Str} (q : Q (.bl true) H) : rIsi K [(.str x), .ty "str"] H Q := rd_isi (.ty _) (TyX.base (.str x)) (kit_ty (by decide +kernel)) q
theorem rd_isi_str_list {x : Str} (q : Q (.bl false) H) : rIsi K [(.str x), .ty "list"] H Q := rd_isi (.ty _) (TyX.base (.str x)) (kit_ty (by decide +kernel)) q
theorem rd_isi_str_tuple {x : Str} (q : Q (.bl false) H) : rIsi K [(.str x), .ty "tuple"] H Q := rd_isi (.ty _) (TyX.base (.str x)) (kit_ty (by decide +kernel)) q
theorem rd_isi_non_int  (q : Q (.bl false) H) : rIsi K [V.non, .ty "int"] H Q := rd_isi (.ty _) (TyX.base .non) (kit_ty (by decide +kernel)) q
theorem rd_isi_non_bool  (q : Q (.bl false) H) : rIsi K [V.non, .ty "bool"] H Q := rd_isi (.ty _) (TyX.base .non) (kit_ty (by decide +kernel)) q
theorem rd_isi_non_str  (q : Q (.bl false) H) : rIsi K [V.non, .ty "str"] H Q := rd_isi (.ty _) (TyX.base .non) (kit_ty (by decide +kernel)) q
theorem rd_isi_non_list  (q : Q (.bl false) H) : rIsi K [V.non, .ty "list"] H Q := rd_isi (.ty _) (TyX.base .non) (kit_ty (by decide +kernel)) q
theorem rd_isi_non_tuple  (q : Q (.bl false) H) : rIsi K [V.non, .ty "tuple"] H Q := rd_isi (.ty _) (TyX.base .non) (kit_ty (by decide +kernel)) q
theorem ty_lst {a : Addr} {xs : List V} (e : SqL K H a xs) : TyX K H (.ref a) (.type "list") := by
  rcases e with (q | ⟨o, q⟩) | ⟨o, _, _, q, c, _⟩
  · exact TyX.base (.lst q)
  · exact TyX.base (.frz q)
  · exact TyX.kList q c
theorem rd_isi_lst_list {a : Addr} {xs : List V} (e : SqL K H a xs) (q : Q (.bl true) H) : rIsi K [.ref a, .ty "list"] H Q := rd_isi (.ty _) (ty_lst e) (kit_ty (by decide +kernel)) q
theorem ty_tup {a : Addr} {xs : List V} (e : SqT K H a xs) : TyX K H (.ref a) (.type "tuple") := by
  rcases e with (q | ⟨o, q⟩) | ⟨o, _, _, q, c, _⟩
  · exact TyX.base (.tup q)
  · exact TyX.fTuple q
  · exact TyX.kTuple q c
theorem rd_isi_tup_list {a : Addr} {xs : List V} (e : SqT K H a xs) (q : Q (.bl false) H) : rIsi K [.ref a, .ty "list"] H Q := rd_isi (.ty _) (ty_tup e) (kit_ty (by decide +kernel)) q
theorem rd_isi_tup_tuple {a : Addr} {xs : List V} (e : SqT K H a xs) (q : Q (.bl true) H) : rIsi K [.ref a, .ty "tuple"] H Q := rd_isi (.ty _) (ty_tup e) (kit_ty (by decide +kernel)) q
end
end L2.Px
set_option Elab.async false
set_option linter.all false
set_option maxRecDepth 100000
set_option maxHeartbeats 1000000
namespace L2.Px
open PySem PySem.Spec PyProof.Rows StX TL
/-- all but what stands at x is as it was -/
def But (x : Addr) (H H' : Hp) : Prop := ∀ b o, b ≠ x → H b = some o → H' b = some o
section
variable {K : PySem.W.Frag} {CT CP : Addr} {H H' H1 : Hp} {a x : Addr} {t : TxI} {v : V} {s : Stp} {ms ps xs : List V} {ss : List Stp} {n y i : Nat} {o : HO}
theorem But.refl : But x H H := fun _ _ _ h => h
theorem But.trans (a : But x H H1) (b : But x H1 H') : But x H H' := fun c o hc h => b c o hc (a c o hc h)
theorem But.at (e : But x H H') : But x H (upd H' x o) := fun b u hb h => by rw [upd_ne hb]; exact e b u hb h
theorem But.same (e : Same H H') : But x H H' := fun b u _ h => e b u h
/-- an object that is no tuple and not locked -/
def Free1 (H : Hp) (x : Addr) : Prop := (∀ xs, H x ≠ some (.tup xs)) ∧ ∀ o u, H x ≠ some (.frz o u)
theorem free1_ins {C dx : Addr} {fs : List (Str × V)} (h : H x = some (.ins C dx fs)) : Free1 H x := ⟨fun xs e => (by rw [h] at e; cases e), fun o u e => (by rw [h] at e; cases e)⟩
theorem free1_lst (h : H x = some (.lst xs)) : Free1 H x := ⟨fun xs e => (by rw [h] at e; cases e), fun o u e => (by rw [h] at e; cases e)⟩
theorem But.tup (e : But x H H') (f : Free1 H x) (h : SqT K H a xs) : SqT K H' a xs := by
  rcases h with (h | ⟨o, h⟩) | h
  · exact .inl (.inl (e _ _ (fun z => f.1 xs (z ▸ h)) h))
  · exact .inl (.inr ⟨o, e _ _ (fun z => f.2 o _ (z ▸ h)) h⟩)
  · exact .inr h
theorem But.step (e : But x H H') (f : Free1 H x) (h : StepAt K H v s) : StepAt K H' v s := let ⟨a, ev, q⟩ := h; ⟨a, ev, e.tup f q⟩
theorem But.steps (e : But x H H') (f : Free1 H x) (h : StepsAt K H ms ss) : StepsAt K H' ms ss := ⟨h.1, fun j s q => let ⟨v, a, b⟩ := h.2 j s q; ⟨v, a, e.step f b⟩⟩
theorem But.part (e : But x H H') (f : ∀ dx fs, H x ≠ some (.ins CP dx fs)) (h : PartAt CP H v n y s) : PartAt CP H' v n y s := by
  cases s with
  | wr w => obtain ⟨p, dx, ev, q⟩ := h; exact ⟨p, dx, ev, e _ _ (fun z => f _ _ (z ▸ q)) q⟩
  | pa f' l t => obtain ⟨p, dx, ev, q⟩ := h; exact ⟨p, dx, ev, e _ _ (fun z => f _ _ (z ▸ q)) q⟩
theorem PartsAt.but (e : But x H H') (f : ∀ dx fs, H x ≠ some (.ins CP dx fs)) (h : PartsAt CP H ps ss) : PartsAt CP H' ps ss := ⟨h.1, fun j s q => let ⟨v, a, b⟩ := h.2 j s q; ⟨v, a, But.part e f b⟩⟩
theorem take_take_le {α : Type} {l : List α} {i j : Nat} (h : j ≤ i) : (l.take i).take j = l.take j := by rw [List.take_take, Nat.min_eq_left h]
theorem PartsAt.snoc (h : PartsAt CP H ps (ss.take i)) (hs : ss[i]? = some s) (e : But x H H') (f : ∀ dx fs, H x ≠ some (.ins CP dx fs)) (hp : PartAt CP H' v (sz (ss.take i)) (tyL (ss.take i)).length s) : PartsAt CP H' (ps ++ [v]) (ss.take (i + 1)) := by
  have hi : i < ss.length := (List.getElem?_eq_some_iff.mp hs).1
  have hl : ps.length = i := by rw [h.1, List.length_take]; omega
  refine ⟨by rw [List.length_append, hl, List.length_take]; simp; omega, fun j s' hj => ?_⟩
  have hj' : j < i + 1 := by
    have := (List.getElem?_eq_some_iff.mp hj).1
    rw [List.length_take] at this; omega
  rw [take_take_le (by omega)]
  rw [List.getElem?_take, if_pos hj'] at hj
  by_cases hji : j < i
  · obtain ⟨v', e1, e2⟩ := h.2 j s' (by rw [List.getElem?_take, if_pos hji]; exact hj)
    rw [take_take_le (by omega)] at e2
    exact ⟨v', by rw [List.getElem?_append_left (by omega)]; exact e1, But.part e f e2⟩
  · have ej : j = i := by omega
    subst ej
    rw [hs] at hj; cases hj
    exact ⟨v, by rw [List.getElem?_append_right (by omega), hl]; simp, hp⟩
theorem StepsAt.at (h : StepsAt K H ms ss) {j : Nat} (hv : ms[j]? = some v) : ∃ s, ss[j]? = some s ∧ StepAt K H v s := by
  have hj : j < ss.length := by rw [← h.1]; exact (List.getElem?_eq_some_iff.mp hv).1
  obtain ⟨v', e1, e2⟩ := h.2 j _ (List.getElem?_eq_getElem hj)
  rw [hv] at e1; cases e1
  exact ⟨_, List.getElem?_eq_getElem hj, e2⟩
theorem str_small {w : Str} (h : w.length ≤ 20) : w.length ≤ sizeLine := Nat.le_trans h (by rw [sizeLine_eq]; decide)
def mv (n : Nat) : Stp → Stp
  | .wr w => .wr w
  | .pa f l t => .pa (f + n) (l + n) t
def joinS (a b : List Stp) : List Stp := a ++ b.map (mv (sz a))
def rt (k c : Nat) : Nat → List Stp → List Stp
  | _, [] => []
  | n, .wr w :: r => (if n ≤ k ∧ k < n + w.length then .wr (mkS ((tl w).set (k - n) c)) else .wr w) :: rt k c (n + w.length) r
  | n, .pa f l t :: r => .pa f l t :: rt k c n r
end
section
variable (K : PySem.W.Frag) (CT CP : Addr)
def sp_is_step : Sp := fun vs H Q _ => ∃ v, ∃ (n : Nat), ∃ s, vs = [v, .int n] ∧ StepAt K H v s ∧ okStep n s ∧ ∀ H', Same H H' → Q (.bl true) H'
def sp_Text_of_steps : Sp := fun vs H Q _ => ∃ a ms ss, vs = [.ref CT, .ref a] ∧ (SqT K H a ms ∨ SqL K H a ms) ∧ StepsAt K H ms ss ∧ okFrom 0 ss ∧ ss.length ≤ 30 ∧ ∀ H' x t, Same H H' → TextAt K CT CP H' x t → t.ss = ss → Q (.ref x) H'
def sp_Text_steps : Sp := fun vs H Q _ => ∃ a t, vs = [.ref a] ∧ TextAt K CT CP H a t ∧ Q (.ref t.m) H
def sp_Text_typed_keys : Sp := fun vs H Q _ => ∃ a t, vs = [.ref a] ∧ TextAt K CT CP H a t ∧ Q (.str (mkS (tyL t.ss))) H
def sp_Text_size : Sp := fun vs H Q _ => ∃ a t, vs = [.ref a] ∧ TextAt K CT CP H a t ∧ Q (.int (sz t.ss)) H
def sp_Text_key_of : Sp := fun vs H Q _ => ∃ a t, ∃ (p k : Nat), vs = [.ref a, .int p] ∧ TextAt K CT CP H a t ∧ (ks t.ss)[p]? = some k ∧ Q (.int k) H
def sp_Text_call : Sp := sp_Text_key_of K CT CP
def sp_Text_getitem : Sp := fun vs H Q _ => ∃ a t, ∃ (p k c : Nat), vs = [.ref a, .int p] ∧ TextAt K CT CP H a t ∧ (ks t.ss)[p]? = some k ∧ (tyL t.ss)[k]? = some c ∧ Q (.str ⟨#[c]⟩) H
def sp_Text_add : Sp := fun vs H Q _ => ∃ a b t u, vs = [.ref a, .ref b] ∧ TextAt K CT CP H a t ∧ TextAt K CT CP H b u ∧ okFrom 0 (joinS t.ss u.ss) ∧ (joinS t.ss u.ss).length ≤ 30 ∧ ∀ H' x z, Same H H' → TextAt K CT CP H' x z → z.ss = joinS t.ss u.ss → Q (.ref x) H'
def mulS (ss : List Stp) (n : Nat) : List Stp := if n = 1 ∨ sz ss = 0 then ss else ss ++ [.pa 0 (sz ss - 1) (n - 1)]
def sp_Text_mul : Sp := fun vs H Q _ => ∃ a t, ∃ (n : Nat), vs = [.ref a, .int n] ∧ TextAt K CT CP H a t ∧ 1 ≤ n ∧ n ≤ 1000000000 ∧ okFrom 0 (mulS t.ss n) ∧ (mulS t.ss n).length ≤ 30 ∧ ∀ H' x z, Same H H' → TextAt K CT CP H' x z → z.ss = mulS t.ss n → Q (.ref x) H'
def sp_Text_retyped : Sp := fun vs H Q _ => ∃ a t, ∃ (k c : Nat), vs = [.ref a, .int k, .str ⟨#[c]⟩] ∧ TextAt K CT CP H a t ∧ k < (tyL t.ss).length ∧ 97 ≤ c ∧ c ≤ 122 ∧ ∀ H' x z, Same H H' → TextAt K CT CP H' x z → z.ss = rt k c 0 t.ss → Q (.ref x) H'
end
end L2.Px
namespace L2.Px
open PySem PySem.Spec PyProof.Rows StX TL
section
variable {K : PySem.W.Frag} {H : Hp} {Q : VK} {x : Str} {a : Addr} {xs : List V}
def rLenA (K : PySem.W.Frag) : List V → Hp → VK → Prop := fun xs H Q => ∃ x n, xs = [x] ∧ LenV K x H n ∧ Q (.int n) H
theorem cLen {X : Cx} : CallR X (.builtin "len") (rLenA X.K) := call_len
theorem rd_len_str (hz : x.length ≤ sizeLine) (q : Q (.int (x.length : Nat)) H) : rLenA K [.str x] H Q := ⟨_, _, rfl, ⟨hz, rfl⟩, q⟩
theorem rd_len_lst (h : SqL K H a xs) (q : Q (.int (xs.length : Nat)) H) : rLenA K [.ref a] H Q := ⟨_, _, rfl, .inl ⟨_, h, rfl⟩, q⟩
theorem rd_len_tup (h : SqT K H a xs) (q : Q (.int (xs.length : Nat)) H) : rLenA K [.ref a] H Q := ⟨_, _, rfl, .inr ⟨_, h, rfl⟩, q⟩
def rIntA : List V → Hp → VK → Prop := fun xs H Q => (∃ i, xs = [.int i] ∧ Q (.int i) H) ∨ ∃ k, xs = [.bl k] ∧ Q (.int (if k then 1 else 0)) H
theorem cInt {X : Cx} : CallR X (.type "int") rIntA := call_int1
theorem rd_int_int {i : Int} (q : Q (.int i) H) : rIntA [.int i] H Q := .inl ⟨i, rfl, q⟩
theorem rd_int_bl {c : Bool} (q : Q (.int (if c then 1 else 0)) H) : rIntA [.bl c] H Q := .inr ⟨c, rfl, q⟩
def rListA (K : PySem.W.Frag) : List V → Hp → VK → Prop := fun xs H Q => ∃ p ys, xs = [.ref p] ∧ (SqL K H p ys ∨ SqT K H p ys) ∧ ∀ l, H l = none → Q (.ref l) (upd H l (.lst ys))
theorem rd_list_tup (h : SqT K H a xs) (q : ∀ l, H l = none → Q (.ref l) (upd H l (.lst xs))) : rListA K [.ref a] H Q := ⟨a, xs, rfl, .inr h, q⟩
def rTupA (K : PySem.W.Frag) : List V → Hp → VK → Prop := fun xs H Q => ∃ p ys, xs = [.ref p] ∧ ((SqL K H p ys ∧ ∀ l, H l = none → Q (.ref l) (upd H l (.tup ys))) ∨ (SqT K H p ys ∧ Q (.ref p) H))
theorem cTup {X : Cx} : CallR X (.type "tuple") (rTupA X.K) := call_tuple_of
theorem rd_tuple_lst (h : SqL K H a xs) (q : ∀ l, H l = none → Q (.ref l) (upd H l (.tup xs))) : rTupA K [.ref a] H Q := ⟨a, xs, rfl, .inl ⟨h, q⟩⟩
def rMin2 : List V → Hp → VK → Prop := fun xs H Q => ∃ i j, xs = [.int i, .int j] ∧ Q (.int (if j < i then j else i)) H
theorem cMin2 {X : Cx} (hc : X.calm = true) : CallR X (.builtin "min") rMin2 := call_min2 hc
theorem rd_min2 {i j : Int} (q : Q (.int (if j < i then j else i)) H) : rMin2 [.int i, .int j] H Q := ⟨i, j, rfl, q⟩
def rMax2 : List V → Hp → VK → Prop := fun xs H Q => ∃ i j, xs = [.int i, .int j] ∧ Q (.int (if j > i then j else i)) H
theorem rd_max2 {i j : Int} (q : Q (.int (if j > i then j else i)) H) : rMax2 [.int i, .int j] H Q := ⟨i, j, rfl, q⟩
def rInSign : R2 := fun x y H Q => ∃ (c : Nat) (z : Str), x = .str ⟨#[c]⟩ ∧ y = .str z ∧ Q (.bl (decide (c ∈ z.cps.toList))) H
theorem oInSign {X : Cx} : OpR X (compareOp .In) rInSign := op_in_sign
theorem rd_in_sign {c : Nat} {z : Str} (q : Q (.bl (decide (c ∈ z.cps.toList))) H) : rInSign (.str ⟨#[c]⟩) (.str z) H Q := ⟨c, z, rfl, rfl, q⟩
def rIsN : R2 := fun x y H Q => y = .non ∧ Q (.bl (decide (x = .non))) H
def rNotN : R2 := fun x y H Q => y = .non ∧ Q (.bl (!decide (x = .non))) H
theorem oIsN {X : Cx} : OpR X (compareOp .Is) rIsN := op_isN
theorem rd_isN {v : V} (q : Q (.bl (decide (v = .non))) H) : rIsN v .non H Q := ⟨rfl, q⟩
theorem rd_notN {v : V} (q : Q (.bl (!decide (v = .non))) H) : rNotN v .non H Q := ⟨rfl, q⟩
theorem one_sign (h : x.length = 1) : ∃ c, x = ⟨#[c]⟩ := by
  have e : (tl x).length = 1 := by rw [← len_tl]; exact h
  obtain ⟨c, hc⟩ := List.length_eq_one_iff.mp e
  exact ⟨c, ext_tl (by rw [hc, tl_mk])⟩
theorem isLet_len (h : ¬ x.length = 1) : isLet (.str x) = false := by
  unfold isLet
  simp only
  split
  · rename_i c e
    exact absurd (by rw [len_tl, e]; rfl) h
  · rfl
theorem low_list : (("abcdefghijklmnopqrstuvwxyz" : Str)).cps.toList = [97, 98, 99, 100, 101, 102, 103, 104, 105, 106, 107, 108, 109, 110, 111, 112, 113, 114, 115, 116, 117, 118, 119, 120, 121, 122] := by decide +kernel
theorem low_mem (c : Nat) : decide (c ∈ (("abcdefghijklmnopqrstuvwxyz" : Str)).cps.toList) = decide (97 ≤ c ∧ c ≤ 122) := by
  rw [low_list]
  apply decide_eq_decide.mpr
  simp only [List.mem_cons, List.not_mem_nil, or_false]
  omega
theorem isLet_one (c : Nat) : isLet (.str ⟨#[c]⟩) = decide (c ∈ (("abcdefghijklmnopqrstuvwxyz" : Str)).cps.toList) := by rw [low_mem]; rfl
theorem isWd_len (h : ¬ (1 ≤ (tl x).length ∧ (tl x).length ≤ 20)) : isWd (.str x) = false := by
  unfold isWd
  exact decide_eq_false fun z => h ⟨z.1, z.2.1⟩
end
section
variable {a b c d e : Str} {va vb vc vd ve : V}
theorem fl1 : (putF a va []).length < 1000 := Nat.lt_of_le_of_lt (putF_len (k := 0) (Nat.le_refl 0)) (by decide)
theorem fl2 : (putF b vb (putF a va [])).length < 1000 := Nat.lt_of_le_of_lt (putF_len (k := 1) (putF_len (k := 0) (Nat.le_refl 0))) (by decide)
theorem fl3 : (putF c vc (putF b vb (putF a va []))).length < 1000 := Nat.lt_of_le_of_lt (putF_len (k := 2) (putF_len (k := 1) (putF_len (k := 0) (Nat.le_refl 0)))) (by decide)
theorem fl4 : (putF d vd (putF c vc (putF b vb (putF a va [])))).length < 1000 := Nat.lt_of_le_of_lt (putF_len (k := 3) (putF_len (k := 2) (putF_len (k := 1) (putF_len (k := 0) (Nat.le_refl 0))))) (by decide)
theorem fl5 : (putF e ve (putF d vd (putF c vc (putF b vb (putF a va []))))).length < 1000 := Nat.lt_of_le_of_lt (putF_len (k := 4) (putF_len (k := 3) (putF_len (k := 2) (putF_len (k := 1) (putF_len (k := 0) (Nat.le_refl 0)))))) (by decide)
end
end L2.Px
set_option Elab.async false
set_option linter.all false
set_option maxRecDepth 100000
set_option maxHeartbeats 1000000
namespace L2.Px
open PySem PySem.Spec PyProof.Rows StX TL
/-- what tLc asks behind the walked thing J -/
def LcW (J : It) (g : TG) (tt : TT) (te : TE) (vs : List Nat) (σ : St) (H1 : Hp) (D : Addr) (Qd : Hp → Prop) : Prop := ∃ W : Nat → Nat → Hp → Prop, (∃ m, W 0 m (upd H1 D (.lst []))) ∧ ∀ i m H, W i m H →
  (J.stop i H ∧ Qd H) ∨ (J.go i H ∧ ∃ Nx : Hp → Prop, (∀ H', Nx H' → ∃ m', m' < m ∧ W (i + 1) m' H') ∧ ∀ x H', J.yld i H x H' → g x (wipe σ vs) H' fun σ2 H2 => wipe σ2 vs = wipe σ vs ∧ tt σ2 H2 fun b H3 =>
    if b = true then te σ2 H3 fun y H4 => ∃ acc, H4 D = some (.lst acc) ∧ acc.length < sizeLine ∧ Nx (upd H4 D (.lst (acc ++ [y]))) else Nx H3)
/-- a walk of n turns whose i-th item is it i, the heap as it is -/
structure Plain (J : It) (n : Nat) (it : Nat → V) (H1 : Hp) : Prop where
  stop : ∀ H, Same H1 H → J.stop n H
  go : ∀ i H, Same H1 H → i < n → J.go i H
  yld : ∀ i H x H', Same H1 H → i < n → J.yld i H x H' → H' = H ∧ x = it i
section
variable {K : PySem.W.Frag} {a : Addr} {xs : List V} {H1 : Hp} {n : Nat} {lo : Int} {x : Str}
theorem plain_list (h : SqL K H1 a xs) : Plain (Itl K a) xs.length (fun i => (xs[i]?).getD .non) H1 where
  stop := fun H s => ⟨xs, s.seq h, Nat.le_refl _⟩
  go := fun i H s hi => ⟨xs, xs[i], s.seq h, by simp [hi]⟩
  yld := fun i H x H' s hi y => ⟨y.1, by rw [y.2 xs (s.seq h)]; rfl⟩
theorem plain_str : Plain (Its x) (tl x).length (fun i => .str ⟨#[(tl x)[i]?.getD 0]⟩) H1 where
  stop := fun H s => by show x.cps.size ≤ _; rw [← len_tl]; exact Nat.le_refl _
  go := fun i H s hi => by show i < x.cps.size; rw [← len_tl] at hi; exact hi
  yld := fun i H y H' s hi h => by
    obtain ⟨e, c, hc, ev⟩ := h
    have e2 : (tl x)[i]? = some c := by show x.cps.toList[i]? = some c; rw [Array.getElem?_toList]; exact hc
    exact ⟨e, by rw [ev, e2]; rfl⟩
theorem plain_rng : Plain (Itr lo n) n (fun i => .int (lo + i)) H1 where
  stop := fun H s => Nat.le_refl _
  go := fun i H s hi => hi
  yld := fun i H x H' s hi y => ⟨y.1, y.2⟩
end
section
variable {J : It} {n : Nat} {it : Nat → V} {H1 : Hp} {tt : TT} {te : TE} {vs : List Nat} {σ : St} {D : Addr} {Qd : Hp → Prop} {j : Nat}
/-- the same with plain answers -/
theorem lc_fun (P : Plain J n it H1) (hD : H1 D = none) (hn : n ≤ sizeLine) (hj : ∀ v, wipe ((wipe σ vs).set j (some v)) vs = wipe σ vs) (f : Nat → V)
    (hs : ∀ i H (Q : VK), i < n → Same H1 H → (∀ H', Same H H' → Q (f i) H') → te ((wipe σ vs).set j (some (it i))) H Q)
    (hd : ∀ H, Same H1 H → H D = some (.lst ((List.range n).map f)) → Qd H) : LcW J (gName j) tYes te vs σ H1 D Qd := by
  refine ⟨fun i m H => m = n - i ∧ i ≤ n ∧ Same H1 H ∧ H D = some (.lst ((List.range i).map f)), ⟨_, rfl, Nat.zero_le _, Same.new (Same.refl _) hD, upd_same⟩, ?_⟩
  rintro i m H ⟨rfl, hi, S, eD⟩
  by_cases hlt : i < n
  · refine .inr ⟨P.go i H S hlt, fun H' => i + 1 ≤ n ∧ Same H1 H' ∧ H' D = some (.lst ((List.range (i + 1)).map f)), fun H' z => ⟨n - (i + 1), by omega, rfl, z⟩, fun x H' y => ?_⟩
    obtain ⟨e1, e2⟩ := P.yld i H x H' S hlt y
    subst e1 e2
    refine ⟨hj _, ?_⟩
    refine rd_yes (iteT ?_)
    refine hs i H' _ hlt S fun H2 S2 => ⟨_, S2 _ _ eD, by rw [List.length_map, List.length_range]; omega, hlt, Same.mut (S.trans S2) hD, ?_⟩
    rw [upd_same, List.range_succ, List.map_append]
    rfl
  · have e : i = n := by omega
    subst e
    exact .inl ⟨P.stop H S, hd H S eD⟩
end
section
variable {K : PySem.W.Frag} {H : Hp} {Q : VK} {x : Str} {a : Addr} {xs : List V}
theorem rd_all {bs : List Bool} (h : SqL K H a (bs.map V.bl)) (q : Q (.bl (bs.all id)) H) : rAll K [.ref a] H Q := ⟨a, bs, rfl, h, q⟩
theorem isWd_all (h1 : 1 ≤ (tl x).length) (h2 : (tl x).length ≤ 20) : ((List.range (tl x).length).map fun i => isLet (.str ⟨#[(tl x)[i]?.getD 0]⟩)).all id = isWd (.str x) := by
  unfold isWd
  rw [List.all_map]
  have key : (List.range (tl x).length).all (id ∘ fun i => isLet (.str ⟨#[(tl x)[i]?.getD 0]⟩)) = decide (∀ c ∈ tl x, 97 ≤ c ∧ c ≤ 122) := by
    rw [Bool.eq_iff_iff, List.all_eq_true, decide_eq_true_iff]
    constructor
    · intro h c hc
      obtain ⟨i, hi, rfl⟩ := List.getElem_of_mem hc
      have := h i (List.mem_range.mpr hi)
      simp only [Function.comp, id, isLet, tl] at this
      rw [List.getElem?_eq_getElem hi] at this
      simpa [tl] using this
    · intro h i hi
      have hi := List.mem_range.mp hi
      have := h _ (List.getElem_mem hi)
      simp only [Function.comp, id, isLet]
      rw [List.getElem?_eq_getElem hi]
      simpa [tl] using this
  rw [key]
  apply decide_eq_decide.mpr
  constructor
  · intro h; exact ⟨h1, h2, h⟩
  · intro h; exact h.2.2
theorem sign_small (c : Nat) : (⟨#[c]⟩ : Str).length ≤ sizeLine := Nat.le_trans (show 1 ≤ 20 by decide) (by rw [sizeLine_eq]; decide)
theorem rd_iStr {te : TE} {σ : St} {Rr : It → Hp → Prop} (h : te σ H fun v H1 => ∃ x, v = .str x ∧ Rr (Its x) H1) : iStr te σ H Rr := h
end
end L2.Px
namespace L2.Px
open PySem PySem.Spec PyProof.Rows StX TL
section
variable {K : PySem.W.Frag} {H : Hp} {Q : VK} {x y : Str} {a l : Addr} {xs : List V} {v : V} {i : Int} {CP CT : Addr} {ss : List Stp} {s : Stp} {n j : Nat}
theorem two_line : 2 ≤ sizeLine := by rw [sizeLine_eq]; decide
theorem emp_mk : ("" : Str) = mkS [] := by decide +kernel
theorem rd_append (h : H l = some (.lst xs)) (hz : xs.length < sizeLine) (q : Q .non (upd H l (.lst (xs ++ [v])))) : rAppend (.ref l) [v] H Q := ⟨l, xs, v, rfl, rfl, h, hz, q⟩
theorem rd_U {g : Int → V} (q : Q (g i) H) : rU g (.int i) H Q := ⟨i, rfl, q⟩
theorem rd_tyL (h : SqL K H a xs) (q : Prop) (hq : q) : tyV K "list" (.ref a) H ∧ q := ⟨.inl ⟨rfl, _, h⟩, hq⟩
theorem line30 : (30 : Nat) < sizeLine := by rw [sizeLine_eq]; decide
theorem tyL_small {ss : List Stp} (ok : okFrom n ss) : (tyL ss).length ≤ 20 * ss.length := by
  induction ss generalizing n with
  | nil => simp [tyL]
  | cons s r ih =>
    obtain ⟨h1, _, h3⟩ := ok
    have := ih h3
    simp only [tyL, List.length_append, List.length_cons]
    cases s with
    | wr w => have := h1.2.1; rw [len_tl] at this; simp only [ty1]; omega
    | pa f l t => simp only [ty1, List.length_nil]; omega
theorem tyL_line (ok : okFrom n ss) (few : ss.length ≤ 30) : (tyL ss).length ≤ sizeLine := Nat.le_trans (tyL_small ok) (Nat.le_trans (show 20 * ss.length ≤ 600 by omega) (by rw [sizeLine_eq]; decide))
theorem tyL_take_le (j : Nat) : (tyL (ss.take j)).length ≤ (tyL ss).length := by
  conv => rhs; rw [← List.take_append_drop j ss, tyL_append, List.length_append]
  omega
end
end L2.Px
namespace L2.Px
open PySem PySem.Spec PyProof.Rows StX TL
section
variable {K : PySem.W.Frag} {H : Hp} {Q : VK} {E : XK} {CP CT : Addr} {a b : Addr} {xs : List V} {s n f l : Int} {t : Bool} {rs : List V} {ss : List Stp}
/-- a part is made -/
theorem rd_mkPart (q : ∀ x dx Hc, H x = none → Same H Hc → Hc x = some (.ins CP dx (partF s n t f l)) → Q (.ref x) Hc) :
    rMk CP (sp_Part_init CP) E [.int s, .int n, .bl t, .int f, .int l] H Q := by
  intro x dx nx nd ne
  exact ⟨x, dx, s, n, t, f, l, rfl, upd_same, rfl, q x dx _ nx (Same.mut (Same.mut (Same.mut (Same.refl _) nd) nx) nx) upd_same⟩
/-- a text is made -/
theorem rd_mkText (hst : StepsAt K H rs ss) (ok : okFrom 0 ss) (few : ss.length ≤ 30)
    (q : ∀ x Hc t, H x = none → Same H Hc → TextAt K CT CP Hc x t → t.ss = ss → Q (.ref x) Hc) :
    rMk CT (spStar 1 (sp_Text_init K CT CP)) E rs H Q := by
  intro x dx nx nd ne
  have S1 : Same H (upd (upd H dx (.own x)) x (.ins CT dx [])) := Same.mut (Same.mut (Same.refl _) nd) nx
  refine ⟨[.ref x], rs, rfl, rfl, by rw [hst.1]; exact Nat.le_trans few (Nat.le_of_lt line30), fun p np => ?_⟩
  have S2 := Same.new (o := .tup rs) S1 np
  exact ⟨x, dx, p, rs, ss, rfl, lk_new np upd_same, SqT.of upd_same, hst.mono S2, ok, few, fun H' t k T e1 e2 => ⟨rfl, q x H' t nx (fun b o e => k b o (ne_of_none e nx) (S2 _ _ e)) T e1⟩⟩
end
end L2.Px
set_option Elab.async false
set_option linter.all false
set_option maxRecDepth 100000
set_option maxHeartbeats 1000000
namespace L2.Px
open PySem PySem.Spec PyProof.Rows StX TL
section
variable {K : PySem.W.Frag} {σ : St} {H : Hp} {Q : VK} {i j : Int} {x y : Str} {a b : Addr} {xs ys : List V} {te ta tb : TE} {tt : TT} {st : TS} {D : Ends} {t1 t2 : TO} {c : Nat} {v : V}
theorem rd_while (W : Nat → St → Hp → Prop) (h0 : ∃ m, W m σ H) (hs : ∀ m σ H, W m σ H → tt σ H fun b H1 => if b = true then ∃ N : St → Hp → Prop, (∀ σ' H', N σ' H' → ∃ m', m' < m ∧ W m' σ' H') ∧ st { D with nx := N, ct := N, bk := D.nx } σ H1 else D.nx σ H1) : tWhile tt st D σ H := ⟨W, h0, hs⟩
theorem rd_ixS (hz : x.length ≤ sizeLine) (e : atI x.cps.toList i = some c) (h : Q (.str ⟨#[c]⟩) H) : rIx K (.str x) (.int i) H Q := .inr (.inr ⟨x, i, c, rfl, rfl, hz, e, h⟩)
theorem rd_ixSn {j : Nat} (hz : x.length ≤ sizeLine) (e : (tl x)[j]? = some c) (h : Q (.str ⟨#[c]⟩) H) : rIx K (.str x) (.int j) H Q := rd_ixS hz (by rw [atI_nat]; exact e) h
theorem rd_ixLn {j : Nat} (hx : SqL K H a xs) (e : xs[j]? = some v) (h : Q v H) : rIx K (.ref a) (.int j) H Q := rd_ixI h hx (by rw [atI_nat]; exact e)
theorem rd_sl {r : V → Option Int → Option Int → Hp → VK → Prop} (h : te σ H fun x H1 => t1 σ H1 fun l H2 => t2 σ H2 fun u H3 => r x l u H3 Q) : tSl r te t1 t2 σ H Q := h
theorem rd_noPart {R : Option Int → Hp → Prop} (h : R none H) : tNoPart σ H R := h
theorem rd_part {R : Option Int → Hp → Prop} (h : te σ H fun x H1 => ∃ i, x = .int i ∧ R (some i) H1) : tPart te σ H R := h
theorem str_len_app (x y : Str) : (x ++ y).length = x.length + y.length := by rw [len_tl, tl_append, List.length_append, ← len_tl, ← len_tl]
theorem rd_pint {R : Int → Prop} (h : R i) : ∃ i', V.int i = .int i' ∧ R i' := ⟨i, rfl, h⟩
theorem rd_slL {lo hi : Option Int} (hx : SqL K H a xs) (h : ∀ p, H p = none → Q (.ref p) (upd H p (.lst (cutV xs lo hi)))) : rSlL K (.ref a) lo hi H Q := ⟨a, xs, rfl, hx, h⟩
end
end L2.Px
set_option Elab.async false
set_option linter.all false
set_option maxRecDepth 100000
set_option maxHeartbeats 1000000
namespace L2.Px
open PySem PySem.Spec PyProof.Rows StX TL
theorem twenty_line : 64 ≤ sizeLine := by rw [sizeLine_eq]; decide
theorem four_line : 4 ≤ sizeLine := by rw [sizeLine_eq]; decide
theorem StepsAt.append {K : PySem.W.Frag} {H : Hp} {ms ns : List V} {ss tt : List Stp} (h : StepsAt K H ms ss) (g : StepsAt K H ns tt) : StepsAt K H (ms ++ ns) (ss ++ tt) := by
  refine ⟨by rw [List.length_append, List.length_append, h.1, g.1], fun j s hj => ?_⟩
  by_cases hl : j < ss.length
  · rw [List.getElem?_append_left hl] at hj
    obtain ⟨v, e1, e2⟩ := h.2 j s hj
    exact ⟨v, by rw [List.getElem?_append_left (by rw [h.1]; exact hl)]; exact e1, e2⟩
  · rw [List.getElem?_append_right (by omega)] at hj
    obtain ⟨v, e1, e2⟩ := g.2 _ s hj
    exact ⟨v, by rw [List.getElem?_append_right (by rw [h.1]; omega), h.1]; exact e1, e2⟩
theorem StepsAt.one {K : PySem.W.Frag} {H : Hp} {v : V} {s : Stp} (h : StepAt K H v s) : StepsAt K H [v] [s] := by
  refine ⟨rfl, fun j s' hj => ?_⟩
  cases j with
  | zero => cases hj; exact ⟨v, rfl, h⟩
  | succ j => simp at hj
theorem StepAt.one' {K : PySem.W.Frag} {H : Hp} {v : V} {s : Stp} (h : StepAt K H v s) : StepsAt K H [v] [s] := .one h
def rt1 (k c n : Nat) : Stp → Stp
  | .wr w => if n ≤ k ∧ k < n + w.length then .wr (mkS ((tl w).set (k - n) c)) else .wr w
  | .pa f l t => .pa f l t
theorem rt_cons (k c n : Nat) (s : Stp) (r : List Stp) : rt k c n (s :: r) = rt1 k c n s :: rt k c (n + (ty1 s).length) r := by
  cases s with
  | wr w => simp only [rt, rt1, ty1, ← len_tl]
  | pa f l t => simp only [rt, rt1, ty1, List.length_nil, Nat.add_zero]
theorem rt_append (k c : Nat) : ∀ (n : Nat) (a b : List Stp), rt k c n (a ++ b) = rt k c n a ++ rt k c (n + (tyL a).length) b
  | n, [], b => by simp [rt, tyL]
  | n, s :: a, b => by
    rw [List.cons_append, rt_cons, rt_cons, rt_append k c _ a b, List.cons_append]
    simp only [tyL, List.length_append]
    rw [Nat.add_assoc]
theorem rt_take {k c : Nat} {ss : List Stp} {i : Nat} {s : Stp} (h : ss[i]? = some s) : rt k c 0 (ss.take (i + 1)) = rt k c 0 (ss.take i) ++ [rt1 k c (tyL (ss.take i)).length s] := by
  rw [take_snoc h, rt_append, Nat.zero_add, rt_cons]; rfl
theorem rt_length (k c : Nat) : ∀ (n : Nat) (ss : List Stp), (rt k c n ss).length = ss.length
  | n, [] => rfl
  | n, s :: r => by rw [rt_cons, List.length_cons, rt_length k c _ r, List.length_cons]
theorem len1_mv (n : Nat) (s : Stp) : len1 (mv n s) = len1 s := by
  cases s with
  | wr w => rfl
  | pa f l t => simp only [mv, len1]; rw [show l + n - (f + n) = l - f by omega]
theorem ty1_mv (n : Nat) (s : Stp) : ty1 (mv n s) = ty1 s := by cases s <;> rfl
theorem ok_mv {n m : Nat} {s : Stp} (h : okStep m s) : okStep (m + n) (mv n s) := by
  cases s with
  | wr w => exact h
  | pa f l t => obtain ⟨a, b, c, d⟩ := h; exact ⟨by omega, by omega, c, d⟩
theorem tyL_mv (n : Nat) : ∀ ss : List Stp, tyL (ss.map (mv n)) = tyL ss
  | [] => rfl
  | s :: r => by rw [List.map_cons]; simp only [tyL]; rw [ty1_mv, tyL_mv n r]
theorem ok_mvs (n : Nat) : ∀ (m : Nat) (ss : List Stp), okFrom m ss → m + n + sz ss ≤ 1000000000000000000 → okFrom (m + n) (ss.map (mv n))
  | m, [], _, _ => trivial
  | m, s :: r, ⟨h1, h2, h3⟩, hz => by
    simp only [sz] at hz
    refine ⟨ok_mv h1, by rw [len1_mv]; omega, ?_⟩
    rw [len1_mv, show m + n + len1 s = m + len1 s + n by omega]
    exact ok_mvs n _ r h3 (by omega)
theorem tyL_join (a b : List Stp) : tyL (joinS a b) = tyL a ++ tyL b := by unfold joinS; rw [tyL_append, tyL_mv]
theorem ok_join {a b : List Stp} (ha : okFrom 0 a) (hb : okFrom 0 b) (hz : sz a + sz b ≤ 1000000000000000000) : okFrom 0 (joinS a b) := by
  unfold joinS
  rw [okFrom_append]
  refine ⟨ha, ?_⟩
  exact ok_mvs (sz a) 0 b hb (by omega)
theorem join_length (a b : List Stp) : (joinS a b).length = a.length + b.length := by unfold joinS; rw [List.length_append, List.length_map]
theorem sz_mul {ss : List Stp} {n : Nat} (hn : 1 ≤ n) : sz (mulS ss n) = sz ss * n := by
  unfold mulS
  split
  · rename_i h
    rcases h with h | h
    · rw [h, Nat.mul_one]
    · rw [h, Nat.zero_mul]
  · rename_i h
    have h1 : sz ss ≠ 0 := fun z => h (.inr z)
    rw [sz_append]
    simp only [sz, len1, Nat.add_zero]
    rw [show sz ss - 1 - 0 + 1 = sz ss by omega]
    obtain ⟨m, rfl⟩ : ∃ m, n = m + 1 := ⟨n - 1, by omega⟩
    rw [Nat.add_sub_cancel, Nat.mul_succ]; omega
theorem mul_length (ss : List Stp) (n : Nat) : (mulS ss n).length ≤ ss.length + 1 := by
  unfold mulS
  split
  · omega
  · rw [List.length_append]; simp
theorem ok_mul {ss : List Stp} {n : Nat} (ok : okFrom 0 ss) (hn : 1 ≤ n) (hn2 : n ≤ 1000000000) (hz : sz ss * n ≤ 1000000000000000000) : okFrom 0 (mulS ss n) := by
  have e := sz_mul (ss := ss) hn
  unfold mulS at e ⊢
  split
  · exact ok
  · rename_i h
    rw [if_neg h, sz_append] at e
    have h1 : sz ss ≠ 0 := fun z => h (.inr z)
    have h2 : n ≠ 1 := fun z => h (.inl z)
    rw [okFrom_append]
    refine ⟨ok, ⟨by omega, by omega, by omega, by omega⟩, ?_, trivial⟩
    simp only [sz, Nat.add_zero] at e
    omega
end L2.Px
set_option Elab.async false
set_option linter.all false
set_option maxRecDepth 100000
set_option maxHeartbeats 1000000
namespace L2.Px
open PySem PySem.Spec PyProof.Rows StX TL
section
variable {X : Cx} {K : PySem.W.Frag} {e o tg : Expr} {es : List Expr} {ta te to : TE} {t : TA} {f name : Str} {pos apos cpos p : Pos} {T id : String} {r : V → List V → Hp → VK → Prop}
theorem pe_fldK (hk : X.K = K) (he : PE X e ta) (hb : attributeBase e f X.env (eval e X.env) = eval e X.env) : PE X (.Attribute e f pos) (tFld K ta f) := hk ▸ pe_fld he hb
theorem ixK (hk : X.K = K) : IxR X (rIx K) := hk ▸ ix_seq
theorem slK (hk : X.K = K) : SlR X (rSlL K) := hk ▸ sl_list
theorem addK (hk : X.K = K) : OpR X (binaryOp .Add) (rAddA K) := hk ▸ oAdd
theorem eqK (hk : X.K = K) (hu : X.A.units + 64 < cLine) : OpR X (compareOp .Eq) (rEqA K) := hk ▸ oEq hu
theorem neK (hk : X.K = K) (hu : X.A.units + 64 < cLine) : OpR X (compareOp .NotEq) (rNeA K) := hk ▸ oNe hu
theorem lenK (hk : X.K = K) : CallR X (.builtin "len") (rLenA K) := hk ▸ cLen
theorem tupK (hk : X.K = K) : CallR X (.type "tuple") (rTupA K) := hk ▸ cTup
theorem isiK (hk : X.K = K) : CallR X (.builtin "isinstance") (rIsi K) := hk ▸ call_isi
theorem allK (hk : X.K = K) (hc : X.calm = true) : CallR X (.builtin "all") (rAll K) := hk ▸ cr_all hc
theorem mt_indexK (hk : X.K = K) : MtR X "list.index" (rIndex K) := hk ▸ mt_index
theorem pi_listK {tl : TE} (hk : X.K = K) (hl : PE X o tl) : PI X tg o (iList K tl) := hk ▸ pi_list hl
theorem pi_tupK {tl : TE} (hk : X.K = K) (hl : PE X o tl) : PI X tg o (iTup K tl) := hk ▸ pi_tup hl
theorem pa_starK (hk : X.K = K) (he : PE X e te) (hr : PA X es t) (hs : starEach (.Starred e p :: es) X.env = (true, eval e X.env) :: starEach es X.env := by rfl) : PA X (.Starred e p :: es) (tStar K te t) := hk ▸ pa_star he hr hs
theorem pg_tupK {k : Nat} {t : TGs} {n : Nat} (hk : X.K = K) (hc : X.calm = true) (h : PGs X es t)
    (hn : (assignEach es X.env).length = n := by rfl) (hst : (assignEach es X.env).findIdx? (·.1) = none := by rfl) : PG X (.Tuple es k pos) (gTup K n t) := hk ▸ pg_tup hc h hn hst
theorem pe_bmK (hk : X.K = K) (pa : PlainAttrs T) (slot : Slot T name id) (hty : typeOf (.builtin id) = pure (.type "method_descriptor")) (hm : MtR X id r) (ho : PE X o to) (ha : PA X (e :: es) t)
    (hbase : attributeBase o name X.env (eval o X.env) = eval o X.env := by rfl)
    (hfew : ((backTo cpos (starEach (e :: es) X.env)).all (fun x => !x.1) && (backToKw cpos (keywordEach [] X.env)).all (fun x => x.1.isSome)
      && decide ((e :: es).length + ([] : List Keyword).length + (if ([] : List Keyword).isEmpty then 0 else 1) < 30)) = true := by rfl)
    (hline : (apos.endLine == cpos.line) = true := by rfl) (hs : starEach (e :: es) X.env = (false, eval e X.env) :: starEach es X.env := by rfl) (hplain : (backTo cpos (starEach es X.env)).any (·.1) = false := by rfl) :
    PE X (.Call (.Attribute o name apos) (e :: es) [] cpos) (tBM K T r to t) := hk ▸ pe_bm pa slot hty hm ho ha hbase hfew hline hs hplain
end
/-- the loop of Text.retyped -/
def RtPv (K : PySem.W.Frag) (H : Hp) (a l : Addr) (k c : Nat) (ss : List Stp) (i : Nat) (σ : St) (H' : Hp) : Prop := ∃ ys v5 v6 v7, σ = [some (.ref a), some (.int k), some (.str ⟨#[c]⟩), some (.ref l), some (.int (tyL (ss.take i)).length), v5, v6, v7] ∧ Same H H' ∧ H l = none ∧ H' l = some (.lst ys) ∧ StepsAt K H' ys (rt k c 0 (ss.take i))
theorem RtPv.next {K : PySem.W.Frag} {H Hx : Hp} {a l p : Addr} {k c i : Nat} {ss : List Stp} {s : Stp} {ys : List V} {v6 v7 : Option V} (hs : ss[i]? = some s) (S : Same H Hx) (hl : H l = none) (e : Hx l = some (.lst ys)) (h : StepsAt K Hx ys (rt k c 0 (ss.take i))) (hp : SqT K Hx p (stV (rt1 k c (tyL (ss.take i)).length s))) (few : ss.length ≤ 30)
    {n : Nat} (hn : n = (tyL (ss.take i)).length + (ty1 s).length) {R : Hp → Prop} (q : ∀ H2, RtPv K H a l k c ss (i + 1) [some (.ref a), some (.int k), some (.str ⟨#[c]⟩), some (.ref l), some (.int n), some (.ref p), v6, v7] H2 → R H2) : rAppend (.ref l) [.ref p] Hx fun _ H2 => R H2 := by
  have hi : i < ss.length := (List.getElem?_eq_some_iff.mp hs).1
  refine rd_append e ?_ (q _ ?_)
  · rw [h.1, rt_length, List.length_take]; have := line30; omega
  · have B : But l Hx (upd Hx l (.lst (ys ++ [.ref p]))) := But.at But.refl
    have f := free1_lst e
    refine ⟨ys ++ [.ref p], some (.ref p), v6, v7, ?_, Same.mut S hl, hl, upd_same, ?_⟩
    · rw [tyL_take hs, List.length_append, hn]
    · rw [rt_take hs]
      exact (B.steps f h).append (StepAt.one' ⟨p, rfl, B.tup f hp⟩)
end L2.Px
set_option Elab.async false
set_option linter.all false
set_option maxRecDepth 100000
set_option maxHeartbeats 1000000
namespace L2.Px
open PySem PySem.Spec PyProof.Rows StX TL
/-- the shape of the row -/
def isRow : HO → Prop
  | .lst [.ref _, .int _, .int _, .int _] => True
  | _ => False
/-- all but rows is as it was, and rows keep what they draw from -/
structure Kp (H H' : Hp) : Prop where
  keep : ∀ b o, ¬ isRow o → H b = some o → H' b = some o
  rows : ∀ (b sa : Addr) (i s e : Int), H b = some (.lst [.ref sa, .int i, .int s, .int e]) → ∃ i' s' e' : Int, H' b = some (.lst [.ref sa, .int i', .int s', .int e'])
instance {H H' : Hp} : CoeFun (Kp H H') (fun _ => ∀ b o, ¬ isRow o → H b = some o → H' b = some o) := ⟨Kp.keep⟩
structure RowAt (K : PySem.W.Frag) (H : Hp) (r : Addr) : Prop where
  ex : ∃ (sa : Addr) (sc : List Int) (i : Nat) (s e : Int), H r = some (.lst [.ref sa, .int i, .int s, .int e]) ∧ SqL K H sa (sc.map V.int)
section
variable {K : PySem.W.Frag} {H H' H1 : Hp} {a r p : Addr} {xs ys : List V} {o : HO} {v : V} {s : Stp} {ms ps : List V} {ss : List Stp} {CT CP : Addr} {t : TxI}
theorem Kp.refl : Kp H H := ⟨fun _ _ _ h => h, fun _ _ _ _ _ h => ⟨_, _, _, h⟩⟩
theorem Kp.trans (a : Kp H H1) (b : Kp H1 H') : Kp H H' := ⟨fun c o hc h => b.keep c o hc (a.keep c o hc h), fun c sa i s e h => let ⟨i', s', e', h'⟩ := a.rows c sa i s e h; b.rows c sa i' s' e' h'⟩
theorem Kp.same (e : Same H H') : Kp H H' := ⟨fun b o _ h => e b o h, fun b _ _ _ _ h => ⟨_, _, _, e b _ h⟩⟩
theorem Kp.new (e : Kp H H') (hp : H' p = none) : Kp H (upd H' p o) := e.trans (Kp.same (Same.new (Same.refl _) hp))
/-- the row is written -/
theorem Kp.row (e : Kp H H') {sa : Addr} {i s n i' s' n' : Int} (h : H' r = some (.lst [.ref sa, .int i, .int s, .int n])) : Kp H (upd H' r (.lst [.ref sa, .int i', .int s', .int n'])) := by
  refine e.trans ⟨fun b w hw q => ?_, fun b sb i1 s1 n1 q => ?_⟩
  · rw [upd_ne fun z => by subst z; rw [h] at q; cases q; exact hw trivial]; exact q
  · by_cases hb : b = r
    · subst hb; rw [h] at q; cases q; exact ⟨_, _, _, upd_same⟩
    · exact ⟨_, _, _, by rw [upd_ne hb]; exact q⟩
theorem Kp.mut (e : Kp H H') (h : H p = none) : Kp H (upd H' p o) :=
  ⟨fun b w hw q => by rw [upd_ne (ne_of_none q h)]; exact e.keep b w hw q, fun b sa i s n q => let ⟨i', s', e', h'⟩ := e.rows b sa i s n q; ⟨i', s', e', by rw [upd_ne (ne_of_none q h)]; exact h'⟩⟩
theorem nr_tup : ¬ isRow (.tup xs) := id
theorem nr_ins {C dx : Addr} {fs : List (Str × V)} : ¬ isRow (.ins C dx fs) := id
theorem nr_frz {u : HO} {o' : Obj} : ¬ isRow (.frz o' u) := id
def isRef : V → Bool
  | .ref _ => true
  | _ => false
theorem nr_refs (h : ∀ v ∈ xs, isRef v = true) : ¬ isRow (.lst xs) := by
  intro z
  unfold isRow at z
  split at z
  · rename_i e
    simp only [HO.lst.injEq] at e
    subst e
    have := h _ (List.mem_cons_of_mem _ List.mem_cons_self)
    cases this
  · exact z
theorem nr_vals (h : ∀ v ∈ xs, isRef v = false) : ¬ isRow (.lst xs) := by
  intro z
  unfold isRow at z
  split at z
  · rename_i e
    simp only [HO.lst.injEq] at e
    subst e
    have := h _ List.mem_cons_self
    cases this
  · exact z
theorem nr_ints {l : List Int} : ¬ isRow (.lst (l.map V.int)) := nr_vals fun v hv => by obtain ⟨i, _, rfl⟩ := List.mem_map.mp hv; rfl
theorem Kp.tup (e : Kp H H') (h : SqT K H a xs) : SqT K H' a xs := by
  rcases h with (h | ⟨o, h⟩) | h
  · exact .inl (.inl (e _ _ nr_tup h))
  · exact .inl (.inr ⟨o, e _ _ nr_frz h⟩)
  · exact .inr h
theorem Kp.lst (e : Kp H H') (n : ¬ isRow (.lst xs)) (h : SqL K H a xs) : SqL K H' a xs := by
  rcases h with (h | ⟨o, h⟩) | h
  · exact .inl (.inl (e _ _ n h))
  · exact .inl (.inr ⟨o, e _ _ nr_frz h⟩)
  · exact .inr h
theorem RowAt.mono (h : RowAt K H r) (e : Same H H') : RowAt K H' r := let ⟨sa, sc, i, s, n, a, b⟩ := h.ex; ⟨sa, sc, i, s, n, e _ _ a, e.seq b⟩
theorem StepAt.kp (h : StepAt K H v s) (e : Kp H H') : StepAt K H' v s := let ⟨a, ev, q⟩ := h; ⟨a, ev, e.tup q⟩
theorem StepsAt.kp (h : StepsAt K H ms ss) (e : Kp H H') : StepsAt K H' ms ss := ⟨h.1, fun j s q => let ⟨v, a, b⟩ := h.2 j s q; ⟨v, a, b.kp e⟩⟩
theorem StepsAt.refs (h : StepsAt K H ms ss) : ∀ v ∈ ms, isRef v = true := by
  intro v hv
  obtain ⟨j, hj, rfl⟩ := List.getElem_of_mem hv
  obtain ⟨s, _, a, e, _⟩ := h.at (List.getElem?_eq_getElem hj)
  rw [e]; rfl
theorem PartAt.kp {n y : Nat} (h : PartAt CP H v n y s) (e : Kp H H') : PartAt CP H' v n y s := by
  cases s with
  | wr w => obtain ⟨p, dx, ev, q⟩ := h; exact ⟨p, dx, ev, e _ _ nr_ins q⟩
  | pa f l t => obtain ⟨p, dx, ev, q⟩ := h; exact ⟨p, dx, ev, e _ _ nr_ins q⟩
theorem PartsAt.refs (h : PartsAt CP H ps ss) : ∀ v ∈ ps, isRef v = true := by
  intro v hv
  obtain ⟨j, hj, rfl⟩ := List.getElem_of_mem hv
  have hj' : j < ss.length := by rw [← h.1]; exact hj
  obtain ⟨v, e1, e2⟩ := h.2 j _ (List.getElem?_eq_getElem hj')
  rw [List.getElem?_eq_getElem hj] at e1
  cases e1
  cases hs : ss[j] with
  | wr w => rw [hs] at e2; obtain ⟨p, dx, ev, q⟩ := e2; rw [ev]; rfl
  | pa f l t => rw [hs] at e2; obtain ⟨p, dx, ev, q⟩ := e2; rw [ev]; rfl
theorem PartsAt.kp (h : PartsAt CP H ps ss) (e : Kp H H') : PartsAt CP H' ps ss := ⟨h.1, fun j s q => let ⟨v, a, b⟩ := h.2 j s q; ⟨v, a, b.kp e⟩⟩
theorem TextAt.kp (h : TextAt K CT CP H a t) (e : Kp H H') : TextAt K CT CP H' a t := ⟨e _ _ nr_ins h.ins, e.tup h.made, h.stp.kp e, e _ _ (nr_refs h.prt.refs) h.pls, h.prt.kp e, h.ok, h.few⟩
end
theorem take_fin {many : Nat} (h : 1 ≤ many) (x : Int) {Q : VK} {H : Hp} (k : ∀ n : Nat, n < many → Q (.int n) H) : Q (.int (x % (many : Nat))) H := by
  have h1 : 0 ≤ x % (many : Int) := Int.emod_nonneg x (by omega)
  have h2 : x % (many : Int) < (many : Int) := Int.emod_lt_of_pos x (by omega)
  have := k (x % (many : Int)).toNat (by omega)
  rw [Int.toNat_of_nonneg h1] at this
  exact this
theorem row_put {K : PySem.W.Frag} {H H' : Hp} {r sa : Addr} {sc : List Int} {i j : Nat} {s e s' e' : Int} (S : Kp H H') (h : H' r = some (.lst [.ref sa, .int i, .int s, .int e])) (hs : SqL K H' sa (sc.map V.int)) :
    Kp H (upd H' r (.lst [.ref sa, .int j, .int s', .int e'])) ∧ upd H' r (.lst [.ref sa, .int j, .int s', .int e']) r = some (.lst [.ref sa, .int j, .int s', .int e']) ∧ SqL K (upd H' r (.lst [.ref sa, .int j, .int s', .int e'])) sa (sc.map V.int) :=
  ⟨S.row h, upd_same, (Kp.refl.row h).lst nr_ints hs⟩
section
variable (K : PySem.W.Frag)
def sp_x_law_taken : Sp := fun vs H Q _ => ∃ (r : Addr) (many : Nat), vs = [.ref r, .int many] ∧ RowAt K H r ∧ 1 ≤ many ∧ many < 1073741824 ∧ ∀ (n : Nat) H', n < many → Kp H H' → RowAt K H' r → Q (.int n) H'
def okWord (w : Str) (m : Nat) : Prop := 1 ≤ w.length ∧ w.length ≤ m ∧ ∀ c ∈ tl w, c = 97 ∨ c = 98 ∨ c = 99 ∨ c = 122
def sp_x_law_word : Sp := fun vs H Q _ => ∃ (r : Addr) (most : Nat), vs = [.ref r, .int most] ∧ RowAt K H r ∧ 1 ≤ most ∧ most ≤ 20 ∧ ∀ (w : Str) H', okWord w most → Kp H H' → RowAt K H' r → Q (.str w) H'
/-- typed as a, b, c, z -/
def okLs (ss : List Stp) : Prop := ∀ c ∈ tyL ss, c = 97 ∨ c = 98 ∨ c = 99 ∨ c = 122
def sp_x_law_steps : Sp := fun vs H Q _ => ∃ (r : Addr) (count most : Nat), vs = [.ref r, .int count, .int most] ∧ RowAt K H r ∧ count ≤ 30 ∧ 1 ≤ most ∧ most ≤ 1000 ∧
  ∀ a ms ss H', Kp H H' → RowAt K H' r → SqT K H' a ms → StepsAt K H' ms ss → okFrom 0 ss → ss.length ≤ count → sz ss ≤ most → (1 ≤ count → 20 ≤ most → 1 ≤ sz ss) → okLs ss → Q (.ref a) H'
end
end L2.Px
namespace L2.Px
open PySem PySem.Spec PyProof.Rows StX TL
theorem one_line : 1 ≤ sizeLine := by rw [sizeLine_eq]; decide
theorem nr_nats {l : List Nat} : ¬ isRow (.lst (l.map fun m => V.int (m : Nat))) := nr_vals fun v hv => by obtain ⟨i, _, rfl⟩ := List.mem_map.mp hv; rfl
theorem StepsAt.snoc {K : PySem.W.Frag} {H : Hp} {ms : List V} {ss : List Stp} {v : V} {s : Stp} (h : StepsAt K H ms ss) (g : StepAt K H v s) : StepsAt K H (ms ++ [v]) (ss ++ [s]) := h.append (.one g)
theorem StepsAt.nil {K : PySem.W.Frag} {H : Hp} : StepsAt K H [] [] := ⟨rfl, fun j s h => by simp at h⟩
theorem ok_snoc {ss : List Stp} {s : Stp} (ok : okFrom 0 ss) (h : okStep (sz ss) s) (hz : sz ss + len1 s ≤ 1000000000000000000) : okFrom 0 (ss ++ [s]) := by
  rw [okFrom_append, Nat.zero_add]
  exact ⟨ok, h, hz, trivial⟩
theorem sz_snoc (ss : List Stp) (s : Stp) : sz (ss ++ [s]) = sz ss + len1 s := by rw [sz_append]; simp [sz]
theorem okWord.step {w : Str} {m n : Nat} (h : okWord w m) (hm : m ≤ 20) : okStep n (.wr w) := ⟨h.1, Nat.le_trans h.2.1 hm, fun c hc => by rcases h.2.2 c hc with e | e | e | e <;> omega⟩
theorem rd_ifOr {t u : TT} {st su : TS} {D : Ends} {σ : St} {H : Hp} (P : Hp → Prop) (ha : ∀ Hc, P Hc → st D σ Hc) (h : (∀ Hc, P Hc → (if true = true then st D σ Hc else su D σ Hc)) → tOr t u σ H fun b H1 => if b = true then st D σ H1 else su D σ H1) : tIfS (tOr t u) st su D σ H := h (fun Hc p => by rw [if_pos rfl]; exact ha Hc p)
theorem okLs.wr {ss : List Stp} {x : Str} {m : Nat} (h : okLs ss) (hx : okWord x m) : okLs (ss ++ [.wr x]) := fun c hc => by
  rw [tyL_append] at hc
  rcases List.mem_append.mp hc with hc | hc
  · exact h c hc
  · exact hx.2.2 c (by simpa [tyL, ty1] using hc)
theorem okLs.pa {ss : List Stp} {f l t : Nat} (h : okLs ss) : okLs (ss ++ [.pa f l t]) := fun c hc => by
  rw [tyL_append] at hc
  rcases List.mem_append.mp hc with hc | hc
  · exact h c hc
  · simp [tyL, ty1] at hc
theorem okLs.app {a b : List Stp} (h : okLs a) (g : okLs b) : okLs (a ++ b) := fun c hc => by
  rw [tyL_append] at hc
  exact (List.mem_append.mp hc).elim (h c) (g c)
end L2.Px
set_option Elab.async false
set_option linter.all false
set_option maxRecDepth 100000
set_option maxHeartbeats 1000000
namespace L2.Px
open PySem PySem.Spec PyProof.Rows StX
section
variable {X : Cx} {CX : CXT} {k : Nat} {C f : Addr} {sp : Sp} {E : XK}
def rEqO (K : PySem.W.Frag) (C : Addr) (sp : Sp) (E : XK) : R2 := fun x y H Q => ∃ a b, x = .ref a ∧ y = .ref b ∧ InsA H a C ∧ (InsA H b C ∨ ∃ xs, SqT K H b xs) ∧ sp [.ref a, .ref b] H Q E
def rNeO (C : Addr) (sp : Sp) (E : XK) : R2 := fun x y H Q => ∃ a b, x = .ref a ∧ y = .ref b ∧ InsA H a C ∧ InsA H b C ∧ sp [.ref a, .ref b] H (fun v H' => ∃ k, v = .bl k ∧ Q (.bl (!k)) H') E
theorem rd_eqO {K : PySem.W.Frag} {a b : Addr} {H : Hp} {Q : VK} (i : InsA H a C) (j : InsA H b C) (h : sp [.ref a, .ref b] H Q E) : rEqO K C sp E (.ref a) (.ref b) H Q := ⟨a, b, rfl, rfl, i, .inl j, h⟩
theorem rd_eqOT {K : PySem.W.Frag} {a b : Addr} {H : Hp} {Q : VK} {xs : List V} (i : InsA H a C) (j : SqT K H b xs) (h : sp [.ref a, .ref b] H Q E) : rEqO K C sp E (.ref a) (.ref b) H Q := ⟨a, b, rfl, rfl, i, .inr ⟨xs, j⟩, h⟩
theorem rd_neO {a b : Addr} {H : Hp} {Q : VK} (i : InsA H a C) (j : InsA H b C) (h : sp [.ref a, .ref b] H (fun v H' => ∃ k, v = .bl k ∧ Q (.bl (!k)) H') E) : rNeO C sp E (.ref a) (.ref b) H Q := ⟨a, b, rfl, rfl, i, j, h⟩
end
end L2.Px
namespace L2.Px
open PySem PySem.Spec PyProof.Rows StX TL
mutual
theorem eqv_refl : ∀ d : PyData, d.canLay0 = true → PyData.eqv d d = true
  | .none, _ => by simp only [PyData.eqv]
  | .bool b, _ => by simp [PyData.eqv]
  | .int i, _ => by simp [PyData.eqv]
  | .str x, _ => by simp [PyData.eqv]
  | .list xs, h => by
    have h' : PyData.canLayAll0 xs = true := by simpa [PyData.canLay0] using h
    simp only [PyData.eqv]; exact eqvAll_refl xs h'
  | .tuple xs, h => by
    have h' : PyData.canLayAll0 xs = true := by simpa [PyData.canLay0] using h
    simp only [PyData.eqv]; exact eqvAll_refl xs h'
  | .dict _, h => by simp [PyData.canLay0] at h
theorem eqvAll_refl : ∀ ds : List PyData, PyData.canLayAll0 ds = true → PyData.eqvAll ds ds = true
  | [], _ => by simp only [PyData.eqvAll]
  | d :: ds, h => by
    have h' : PyData.canLay0 d = true ∧ PyData.canLayAll0 ds = true := by simpa [PyData.canLayAll0] using h
    simp only [PyData.eqvAll, Bool.and_eq_true]
    exact ⟨eqv_refl d h'.1, eqvAll_refl ds h'.2⟩
end
/-- data whose depth is at most n -/
def DOk (n : Nat) (d : PyData) : Prop := d.canLay0 = true ∧ d.depth ≤ n
def DOkAll (n : Nat) (ds : List PyData) : Prop := PyData.canLayAll0 ds = true ∧ PyData.depthAll ds ≤ n
theorem DOk.shaped {n : Nat} {d : PyData} (h : DOk n d) (hn : n ≤ 64 := by decide) : SeqAt.shaped d = true := by
  unfold SeqAt.shaped
  rw [h.1, Bool.true_and]
  exact decide_eq_true (Nat.le_trans h.2 hn)
theorem DOkAll.of {n : Nat} {ds : List PyData} (h : ∀ d ∈ ds, DOk n d) : DOkAll n ds := by
  induction ds with
  | nil => exact ⟨by simp [PyData.canLayAll0], by simp [PyData.depthAll]⟩
  | cons d ds ih =>
    have h1 := h d List.mem_cons_self
    have h2 := ih fun e he => h e (List.mem_cons_of_mem _ he)
    refine ⟨by simp only [PyData.canLayAll0, Bool.and_eq_true]; exact ⟨h1.1, h2.1⟩, ?_⟩
    have a := h1.2; have b := h2.2
    simp only [PyData.depthAll]
    omega
theorem DOk.lst {n : Nat} {ds : List PyData} (h : ∀ d ∈ ds, DOk n d) : DOk (n + 1) (.list ds) := by
  have := DOkAll.of h
  exact ⟨by simp only [PyData.canLay0]; exact this.1, by simp only [PyData.depth]; have := this.2; omega⟩
theorem DOk.tup {n : Nat} {ds : List PyData} (h : ∀ d ∈ ds, DOk n d) : DOk (n + 1) (.tuple ds) := by
  have := DOkAll.of h
  exact ⟨by simp only [PyData.canLay0]; exact this.1, by simp only [PyData.depth]; have := this.2; omega⟩
theorem DOk.int {i : Int} : DOk 0 (.int i) := ⟨by simp [PyData.canLay0], by simp [PyData.depth]⟩
theorem DOk.bool {i : Bool} : DOk 0 (.bool i) := ⟨by simp [PyData.canLay0], by simp [PyData.depth]⟩
theorem DOk.non : DOk 0 .none := ⟨by simp [PyData.canLay0], by simp [PyData.depth]⟩
theorem DOk.str {x : Str} (h : PySem.PyData.strOk x = true) : DOk 0 (.str x) := ⟨by simp [PyData.canLay0, h], by simp [PyData.depth]⟩
theorem DOk.mono {n m : Nat} {d : PyData} (h : DOk n d) (hn : n ≤ m) : DOk m d := ⟨h.1, Nat.le_trans h.2 hn⟩
end L2.Px
namespace L2.Px
open PySem PySem.Spec PyProof.Rows StX TL
theorem strOk_of {x : Str} (h : ∀ c ∈ tl x, c ≤ 122) : PySem.PyData.strOk x = true := by
  unfold PySem.PyData.strOk
  rw [Array.all_eq_true']
  intro c hc
  have := h c (show c ∈ x.cps.toList from Array.mem_toList_iff.mpr hc)
  exact decide_eq_true (by omega)
def stD : Stp → PyData
  | .wr w => .tuple [.str "write", .str w]
  | .pa f l t => .tuple [.str "paste", .int f, .int l, .int t]
theorem stD_eq (s t : Stp) : PyData.eqv (stD s) (stD t) = decide (s = t) := by
  cases s <;> cases t <;> simp [stD, PyData.eqv, PyData.eqvAll, Bool.beq_eq_decide_eq, Int.natCast_inj]
theorem stDs_eq : ∀ a b : List Stp, PyData.eqvAll (a.map stD) (b.map stD) = decide (a = b)
  | [], [] => by simp [PyData.eqvAll]
  | [], _ :: _ => by simp [PyData.eqvAll]
  | _ :: _, [] => by simp [PyData.eqvAll]
  | s :: a, t :: b => by
    simp only [List.map_cons, PyData.eqvAll, stD_eq, stDs_eq a b]
    by_cases h : s = t <;> by_cases h2 : a = b <;> simp [h, h2]
section
variable {K : PySem.W.Frag} {H : Hp} {v w : V} {s : Stp} {ms xs : List V} {ss : List Stp} {ds : List PyData} {Q : VK} {n : Nat} {d : PyData}
theorem StepAt.dp (h : StepAt K H v s) : Dp K H v (stD s) := by
  obtain ⟨a, rfl, q⟩ := h
  cases s with
  | wr w => exact .tup q (.cons (.str _) (.cons (.str _) .nil))
  | pa f l t => exact .tup q (.cons (.str _) (.cons (.int _) (.cons (.int _) (.cons (.int _) .nil))))
theorem dpAll_of (hl : xs.length = ds.length) (h : ∀ (i : Nat) (v : V) (d : PyData), xs[i]? = some v → ds[i]? = some d → Dp K H v d) : DpAll K H xs ds := by
  induction xs generalizing ds with
  | nil => cases ds with
    | nil => exact .nil
    | cons d ds => simp at hl
  | cons x xs ih =>
    cases ds with
    | nil => simp at hl
    | cons d ds => exact .cons (h 0 x d rfl rfl) (ih (by simpa using hl) fun i v d a b => h (i + 1) v d (by simpa using a) (by simpa using b))
theorem StepsAt.dp (h : StepsAt K H ms ss) : DpAll K H ms (ss.map stD) := by
  refine dpAll_of (by rw [List.length_map, h.1]) fun i v d a b => ?_
  rw [List.getElem?_map] at b
  obtain ⟨s, hs, rfl⟩ := Option.map_eq_some_iff.mp b
  obtain ⟨v', e1, e2⟩ := h.2 i s hs
  rw [a] at e1; cases e1
  exact e2.dp
theorem okStep.dok {m : Nat} (h : okStep m s) : DOk 1 (stD s) := by
  cases s with
  | wr w =>
    refine .tup (n := 0) fun d hd => ?_
    simp only [List.mem_cons, List.not_mem_nil, or_false] at hd
    rcases hd with rfl | rfl
    · exact .str (by decide +kernel)
    · exact .str (strOk_of fun c hc => (h.2.2 c hc).2)
  | pa f l t =>
    refine .tup (n := 0) fun d hd => ?_
    simp only [List.mem_cons, List.not_mem_nil, or_false] at hd
    rcases hd with rfl | rfl | rfl | rfl
    · exact .str (by decide +kernel)
    · exact .int
    · exact .int
    · exact .int
theorem steps_dok (ok : okFrom 0 ss) : DOk 2 (.tuple (ss.map stD)) := by
  refine .tup fun d hd => ?_
  obtain ⟨s, hs, rfl⟩ := List.mem_map.mp hd
  obtain ⟨i, hi, rfl⟩ := List.getElem_of_mem hs
  exact (ok_at ok (List.getElem?_eq_getElem hi)).1.dok
theorem dp_nats {l : List Nat} : DpAll K H (l.map fun m => V.int (m : Nat)) (l.map fun m => PyData.int (m : Nat)) := by
  induction l with
  | nil => exact .nil
  | cons x l ih => exact .cons (.int _) ih
theorem nats_dok {l : List Nat} : DOk 1 (.list (l.map fun m => PyData.int (m : Nat))) := .lst fun d hd => by obtain ⟨i, _, rfl⟩ := List.mem_map.mp hd; exact .int
theorem rd_ne_same (hv : Dp K H v d) (hw : Dp K H w d) (ok : DOk n d) (hn : n ≤ 64) (q : Q (.bl false) H) : rNeA K v w H Q := rd_ne_dat hv hw (ok.shaped hn) (ok.shaped hn) (by rw [eqv_refl d ok.1]; exact q)
variable (K) (CT CP : Addr)
def sp_Text_eq : Sp := fun vs H Q _ => ∃ a b t, vs = [.ref a, .ref b] ∧ TextAt K CT CP H a t ∧ ((∃ u, TextAt K CT CP H b u ∧ Q (.bl (decide (t.ss = u.ss))) H) ∨ ∃ xs, SqT K H b xs ∧ Q (.bl false) H)
end
end L2.Px
set_option Elab.async false
set_option linter.all false
set_option maxRecDepth 100000
set_option maxHeartbeats 1000000
namespace L2.Px
open PySem PySem.Spec PyProof.Rows StX TL
/-- alike, to a depth: equal ints or texts, or tuples (lists) of alike items -/
def Al (K : PySem.W.Frag) (H : Hp) : Nat → V → V → Prop
  | 0, _, _ => False
  | n + 1, v, w => (∃ i, v = .int i ∧ w = .int i) ∨ (∃ x, v = .str x ∧ w = .str x ∧ x.length ≤ sizeLine) ∨ ∃ a b xs ys, v = .ref a ∧ w = .ref b ∧ (SqT K H a xs ∧ SqT K H b ys ∨ SqL K H a xs ∧ SqL K H b ys) ∧ xs.length = ys.length ∧ xs.length ≤ sizeLine ∧ ∀ (i : Nat) x y, xs[i]? = some x → ys[i]? = some y → Al K H n x y
section
variable {K : PySem.W.Frag} {H H' : Hp} {Q : VK} {v w : V} {n : Nat} {xs : List V} {a : Addr}
theorem Al.mono (e : Same H H') : ∀ {n : Nat} {v w : V}, Al K H n v w → Al K H' n v w
  | 0, _, _, h => h.elim
  | n + 1, _, _, h => by
    rcases h with h | h | ⟨a, b, xs, ys, h1, h2, h3, h4, h5, h6⟩
    · exact .inl h
    · exact .inr (.inl h)
    · refine .inr (.inr ⟨a, b, xs, ys, h1, h2, ?_, h4, h5, fun i x y p q => Al.mono e (h6 i x y p q)⟩)
      rcases h3 with ⟨p, q⟩ | ⟨p, q⟩
      · exact .inl ⟨Same.tup e p, Same.tup e q⟩
      · exact .inr ⟨e.seq p, e.seq q⟩
end
end L2.Px
namespace L2.Px
open PySem PySem.Spec PyProof.Rows StX TL
section
variable {K : PySem.W.Frag} {H H' : Hp} {Q : VK} {v w : V} {n : Nat} {xs : List V} {a : Addr} {σ : St} {te ta tb : TE} {i j : Int} {tr : St → Hp → (Int → Int → Hp → Prop) → Prop}
theorem rd_listRg (h : tr σ H fun a b H1 => RgOk a b ∧ ∀ q, H1 q = none → Q (.ref q) (upd H1 q (.lst (rgV a b)))) : tLstRg tr σ H Q := h
theorem rd_rg1 {R : Int → Int → Hp → Prop} (h : ta σ H fun x H1 => ∃ n, x = .int n ∧ R 0 n H1) : tRg1 ta σ H R := h
theorem rd_rg2 {R : Int → Int → Hp → Prop} (h : ta σ H fun x H1 => tb σ H1 fun y H2 => ∃ i j, x = .int i ∧ y = .int j ∧ R i j H2) : tRg2 ta tb σ H R := h
end
end L2.Px
namespace L2.Px
open PySem PySem.Spec PyProof.Rows StX TL
section
variable {K : PySem.W.Frag} {H H' : Hp} {Q : VK} {v w : V} {n : Nat} {xs : List V} {a C : Addr} {σ : St} {ta tb : TE} {sp : Sp} {E : XK} {t : TA} {ss : List Stp} {ms : List V}
theorem rd_ixO (h : ta σ H fun x H1 => tb σ H1 fun y H2 => ∃ a, x = .ref a ∧ InsA H2 a C ∧ sp [x, y] H2 Q E) : tIxOwn C sp E ta tb σ H Q := h
theorem rd_ref1 {A : Addr → Prop} (h : A a) : ∃ a', V.ref a = .ref a' ∧ A a' := ⟨a, rfl, h⟩
theorem Al.int {i : Int} : Al K H (n + 1) (.int i) (.int i) := .inl ⟨i, rfl, rfl⟩
theorem Al.str {x : Str} (h : x.length ≤ sizeLine) : Al K H (n + 1) (.str x) (.str x) := .inr (.inl ⟨x, rfl, rfl, h⟩)
theorem Al.step {s : Stp} {m : Nat} (ok : okStep m s) (h : StepAt K H v s) (g : StepAt K H w s) : Al K H (n + 2) v w := by
  obtain ⟨a, rfl, qa⟩ := h
  obtain ⟨b, rfl, qb⟩ := g
  refine .inr (.inr ⟨a, b, _, _, rfl, rfl, .inl ⟨qa, qb⟩, rfl, ?_, fun i x y hx hy => ?_⟩)
  · have := four_line
    cases s <;> simp [stV] <;> omega
  · rw [hx] at hy; cases hy
    have hm := List.mem_of_getElem? hx
    cases s with
    | wr w =>
      simp only [stV, List.mem_cons, List.not_mem_nil, or_false] at hm
      rcases hm with rfl | rfl
      · exact Al.str (str_small (by decide +kernel))
      · exact Al.str (str_small ok.2.1)
    | pa f l t =>
      simp only [stV, List.mem_cons, List.not_mem_nil, or_false] at hm
      rcases hm with rfl | rfl | rfl | rfl
      · exact Al.str (str_small (by decide +kernel))
      · exact Al.int
      · exact Al.int
      · exact Al.int
theorem Al.steps {a b : Addr} {xs ys : List V} (ok : okFrom 0 ss) (ha : SqT K H a xs) (hb : SqT K H b ys) (h : StepsAt K H xs ss) (g : StepsAt K H ys ss) (few : ss.length ≤ 31) : Al K H (n + 3) (.ref a) (.ref b) := by
  refine .inr (.inr ⟨a, b, _, _, rfl, rfl, .inl ⟨ha, hb⟩, by rw [h.1, g.1], by rw [h.1]; have := twenty_line; omega, fun i x y hx hy => ?_⟩)
  obtain ⟨s, hs, h1⟩ := h.at hx
  obtain ⟨s2, hs2, h2⟩ := g.at hy
  rw [hs] at hs2; cases hs2
  exact Al.step (ok_at ok hs).1 h1 h2
variable (K) (CT CP : Addr)
end
end L2.Px
namespace L2.Px
open PySem PySem.Spec PyProof.Rows StX TL
end L2.Px
namespace L2.Px
open PySem PySem.Spec PyProof.Rows StX TL
theorem catTK {X : Cx} {K : PySem.W.Frag} (hk : X.K = K) : OpR X (binaryOp .Add) (rCatA K) := hk ▸ op_catA
end L2.Px
namespace L2.Px
open PySem PySem.Spec PyProof.Rows StX TL
def rJoin (K : PySem.W.Frag) : V → List V → Hp → VK → Prop := fun x xs H Q => ∃ a p, ∃ ys : List Str, x = .str a ∧ xs = [.ref p] ∧ (SqL K H p (ys.map V.str) ∨ SqT K H p (ys.map V.str)) ∧ (ys.map (·.length)).sum + ys.length * a.length ≤ 16777216 ∧ Q (.str (Txt.join a ys)) H
theorem pe_joinK {X : Cx} {K : PySem.W.Frag} {o e : Expr} {to te : TE} {apos pos : Pos} (hk : X.K = K) (ho : PE X o to) (he : PE X e te) (hs : starEach [e] X.env = [(false, eval e X.env)] := by rfl) (hbase : attributeBase o "join" X.env (eval o X.env) = eval o X.env := by rfl) (hline : (apos.endLine == pos.line) = true := by rfl) :
    PE X (.Call (.Attribute o "join" apos) [e] [] pos) (tM1 (rJoin K) to te) := hk ▸ pe_join ho he hs hbase hline
theorem rd_m1 {r : V → List V → Hp → VK → Prop} {to te : TE} {σ : St} {H : Hp} {Q : VK} (h : to σ H fun x H1 => (∃ a, x = .str a) ∧ te σ H1 fun y H2 => r x [y] H2 Q) : tM1 r to te σ H Q := h
end L2.Px
set_option Elab.async false
set_option linter.all false
set_option maxRecDepth 100000
set_option maxHeartbeats 1000000
namespace L2.Px
open PySem PySem.Spec PyProof.Rows StX TL
/-- the text of steps ss stands at a -/
def TX (K : PySem.W.Frag) (CT CP : Addr) (H : Hp) (a : Addr) (ss : List Stp) : Prop := ∃ t, TextAt K CT CP H a t ∧ t.ss = ss
/-- a list or a tuple of the steps ss -/
def SX (K : PySem.W.Frag) (H : Hp) (a : Addr) (ss : List Stp) : Prop := ∃ ms, (SqT K H a ms ∨ H a = some (.lst ms)) ∧ StepsAt K H ms ss
/-- a tuple of the steps ss -/
def TS' (K : PySem.W.Frag) (H : Hp) (a : Addr) (ss : List Stp) : Prop := ∃ ms, SqT K H a ms ∧ StepsAt K H ms ss
def natV (L : List Nat) : List V := L.map fun m => V.int (m : Nat)
def kat (ss : List Stp) (p : Nat) : Nat := (ks ss)[p]?.getD 0
def lat (ss : List Stp) (k : Nat) : Nat := (tyL ss)[k]?.getD 0
section
variable {K : PySem.W.Frag} {CT CP : Addr} {H H' : Hp} {Q : VK} {E : XK} {a b r : Addr} {ss tt : List Stp} {i j : Int} {v : V} {o : HO} {xs : List V} {L : List Nat}
theorem TX.kp (h : TX K CT CP H a ss) (e : Kp H H') : TX K CT CP H' a ss := let ⟨t, T, q⟩ := h; ⟨t, T.kp e, q⟩
theorem TX.ok (h : TX K CT CP H a ss) : okFrom 0 ss := let ⟨t, T, q⟩ := h; q ▸ T.ok
theorem TX.few (h : TX K CT CP H a ss) : ss.length ≤ 30 := let ⟨t, T, q⟩ := h; q ▸ T.few
theorem TX.insA (h : TX K CT CP H a ss) : InsA H a CT := let ⟨t, T, q⟩ := h; T.insA
theorem TX.insM {m : Str} (h : TX K CT CP H a ss) (hm : m ≠ "total" ∧ m ≠ "parts" ∧ m ≠ "typed" ∧ m ≠ "made" := by decide +kernel) : InsM H a CT m := let ⟨t, T, q⟩ := h; T.insM hm
theorem SX.kp (h : SX K H a ss) (e : Kp H H') : SX K H' a ss := let ⟨ms, q, s⟩ := h; ⟨ms, q.elim (fun q => .inl (e.tup q)) (fun q => .inr (e _ _ (nr_refs s.refs) q)), s.kp e⟩
theorem TS'.kp (h : TS' K H a ss) (e : Kp H H') : TS' K H' a ss := let ⟨ms, q, s⟩ := h; ⟨ms, e.tup q, s.kp e⟩
theorem TS'.sx (h : TS' K H a ss) : SX K H a ss := let ⟨ms, q, s⟩ := h; ⟨ms, .inl q, s⟩
theorem nr_natV {L : List Nat} : ¬ isRow (.lst (natV L)) := nr_nats
theorem natV_len (L : List Nat) : (natV L).length = L.length := List.length_map _
theorem sl : sizeLine = 16777216 := sizeLine_eq
theorem kat_some (ok : okFrom 0 ss) {p : Nat} (h : p < sz ss) : (ks ss)[p]? = some (kat ss p) := by
  unfold kat; rw [List.getElem?_eq_getElem (by rw [ks_len ok]; exact h)]; rfl
theorem kat_lt (ok : okFrom 0 ss) {p : Nat} (h : p < sz ss) : kat ss p < (tyL ss).length := ks_lt (List.mem_of_getElem? (kat_some ok h))
theorem lat_some {k : Nat} (h : k < (tyL ss).length) : (tyL ss)[k]? = some (lat ss k) := by
  unfold lat; rw [List.getElem?_eq_getElem h]; rfl
theorem new_of {P : Addr → Hp → Prop} (q : ∀ p H', Same H H' → H' p = some o → P p H') : ∀ p, H p = none → P p (upd H p o) := fun p hp => q p _ (Same.new (Same.refl _) hp) upd_same
theorem Same.lk (h : H a = some o) (s : Same H H') : H' a = some o := s _ _ h
theorem rd_taken (row : RowAt K H r) (h1 : 1 ≤ i) (h2 : i < 1073741824) (q : ∀ (n : Nat) H', (n : Int) < i → Kp H H' → RowAt K H' r → Q (.int n) H') : sp_x_law_taken K [.ref r, .int i] H Q E :=
  ⟨r, i.toNat, by rw [Int.toNat_of_nonneg (by omega)], row, by omega, by omega, fun n H' hn k w => q n H' (by omega) k w⟩
theorem rd_word (row : RowAt K H r) (h1 : 1 ≤ i) (h2 : i ≤ 20) (q : ∀ (w : Str) H', okWord w i.toNat → Kp H H' → RowAt K H' r → Q (.str w) H') : sp_x_law_word K [.ref r, .int i] H Q E :=
  ⟨r, i.toNat, by rw [Int.toNat_of_nonneg (by omega)], row, by omega, by omega, q⟩
theorem rd_stepsL (row : RowAt K H r) (h1 : 0 ≤ i) (h2 : i ≤ 30) (h3 : 20 ≤ j) (h4 : j ≤ 1000)
    (q : ∀ p ss H', Kp H H' → RowAt K H' r → TS' K H' p ss → okFrom 0 ss → (ss.length : Int) ≤ i → (sz ss : Int) ≤ j → (1 ≤ i → 1 ≤ sz ss) → Q (.ref p) H') : sp_x_law_steps K [.ref r, .int i, .int j] H Q E :=
  ⟨r, i.toNat, j.toNat, by rw [Int.toNat_of_nonneg (by omega), Int.toNat_of_nonneg (by omega)], row, by omega, by omega, by omega,
    fun p ms ss H' k w a b c d e f _ => q p ss H' k w ⟨ms, a, b⟩ c (by omega) (by omega) (fun z => f (by omega) (by omega))⟩
theorem rd_stepsQ (row : RowAt K H r) (h1 : 0 ≤ i) (h2 : i ≤ 30) (h3 : 20 ≤ j) (h4 : j ≤ 1000)
    (q : ∀ p ss H', Kp H H' → RowAt K H' r → TS' K H' p ss → okFrom 0 ss → (ss.length : Int) ≤ i → (sz ss : Int) ≤ j → (1 ≤ i → 1 ≤ sz ss) → okLs ss → Q (.ref p) H') : sp_x_law_steps K [.ref r, .int i, .int j] H Q E :=
  ⟨r, i.toNat, j.toNat, by rw [Int.toNat_of_nonneg (by omega), Int.toNat_of_nonneg (by omega)], row, by omega, by omega, by omega,
    fun p ms ss H' k w a b c d e f g => q p ss H' k w ⟨ms, a, b⟩ c (by omega) (by omega) (fun z => f (by omega) (by omega)) g⟩
theorem rd_listS (h : TS' K H a ss) (q : ∀ p H', Same H H' → SX K H' p ss → Q (.ref p) H') : rListA K [.ref a] H Q := by
  obtain ⟨ms, q1, st⟩ := h
  exact rd_list_tup q1 fun l hl => q l _ (Same.new (Same.refl _) hl) ⟨ms, .inr upd_same, st.mono (Same.new (Same.refl _) hl)⟩
theorem rd_ofSteps (h : SX K H a ss) (ok : okFrom 0 ss) (few : ss.length ≤ 30) (q : ∀ p H', Same H H' → TX K CT CP H' p ss → Q (.ref p) H') : sp_Text_of_steps K CT CP [.ref CT, .ref a] H Q E := by
  obtain ⟨ms, q1, st⟩ := h
  exact ⟨a, ms, ss, rfl, q1.elim .inl (fun z => .inr (SqL.of z)), st, ok, few, fun H' x t S T e => q x H' S ⟨t, T, e⟩⟩
theorem rd_pSize (h : TX K CT CP H a ss) (q : Q (.int (sz ss : Nat)) H) : ∃ a' dx fs, V.ref a = .ref a' ∧ H a' = some (.ins CT dx fs) ∧ sp_Text_size K CT CP [.ref a'] H Q E := by
  obtain ⟨t, T, rfl⟩ := h
  exact rd_prop_at T.insA ⟨a, t, rfl, T, q⟩
theorem rd_pTyped (h : TX K CT CP H a ss) (q : Q (.str (mkS (tyL ss))) H) : ∃ a' dx fs, V.ref a = .ref a' ∧ H a' = some (.ins CT dx fs) ∧ sp_Text_typed_keys K CT CP [.ref a'] H Q E := by
  obtain ⟨t, T, rfl⟩ := h
  exact rd_prop_at T.insA ⟨a, t, rfl, T, q⟩
theorem rd_pSteps (h : TX K CT CP H a ss) (q : ∀ p, TS' K H p ss → Q (.ref p) H) : ∃ a' dx fs, V.ref a = .ref a' ∧ H a' = some (.ins CT dx fs) ∧ sp_Text_steps K CT CP [.ref a'] H Q E := by
  obtain ⟨t, T, rfl⟩ := h
  exact rd_prop_at T.insA ⟨a, t, rfl, T, q _ ⟨t.ms, T.made, T.stp⟩⟩
theorem rd_keyOf (h : TX K CT CP H a ss) (h0 : 0 ≤ i) (h1 : i < sz ss) (q : Q (.int (kat ss i.toNat : Nat)) H) : sp_Text_key_of K CT CP [.ref a, .int i] H Q E := by
  have ok := h.ok
  obtain ⟨t, T, rfl⟩ := h
  exact ⟨a, t, i.toNat, _, by rw [Int.toNat_of_nonneg h0], T, kat_some ok (by omega), q⟩
theorem rd_oCall (h : TX K CT CP H a ss) (h0 : 0 ≤ i) (h1 : i < sz ss) (q : Q (.int (kat ss i.toNat : Nat)) H) : InsA H a CT ∧ sp_Text_call K CT CP [.ref a, .int i] H Q E := ⟨h.insA, rd_keyOf h h0 h1 q⟩
theorem rd_oItem (h : TX K CT CP H a ss) (h0 : 0 ≤ i) (h1 : i < sz ss) (q : Q (.str ⟨#[lat ss (kat ss i.toNat)]⟩) H) : ∃ a', V.ref a = .ref a' ∧ InsA H a' CT ∧ sp_Text_getitem K CT CP [.ref a, .int i] H Q E := by
  have ok := h.ok
  have hi : i.toNat < sz ss := by omega
  have hk := kat_lt ok hi
  obtain ⟨t, T, rfl⟩ := h
  exact ⟨a, rfl, T.insA, a, t, i.toNat, _, _, by rw [Int.toNat_of_nonneg h0], T, kat_some ok hi, lat_some hk, q⟩
theorem join_ok (h : TX K CT CP H a ss) (g : TX K CT CP H' b tt) (hz : sz ss + sz tt ≤ 1000000000000000000) : okFrom 0 (joinS ss tt) := ok_join h.ok g.ok hz
theorem rd_opAdd (h : TX K CT CP H a ss) (g : TX K CT CP H b tt) (hz : sz ss + sz tt ≤ 1000000000000000000) (hl : ss.length + tt.length ≤ 30)
    (q : ∀ p H', Same H H' → TX K CT CP H' p (joinS ss tt) → Q (.ref p) H') : rOwn CT (sp_Text_add K CT CP) E (.ref a) (.ref b) H Q := by
  have j := join_ok h g hz
  have ia := h.insA
  have ib := g.insA
  obtain ⟨t, T, rfl⟩ := h
  obtain ⟨u, U, rfl⟩ := g
  exact rd_own ia ib ⟨a, b, t, u, rfl, T, U, j, by rw [join_length]; exact hl, fun H' x z S Z e => q x H' S ⟨z, Z, e⟩⟩
theorem rd_opMul (h : TX K CT CP H a ss) (h1 : 1 ≤ i) (h2 : i ≤ 1000000000) (hz : (sz ss : Int) * i ≤ 1000000000000000000) (hl : ss.length + 1 ≤ 30)
    (q : ∀ p H', Same H H' → TX K CT CP H' p (mulS ss i.toNat) → Q (.ref p) H') : rOwnI CT (sp_Text_mul K CT CP) E (.ref a) (.int i) H Q := by
  have ok := h.ok
  have ia := h.insA
  obtain ⟨n, rfl⟩ : ∃ n : Nat, i = n := ⟨i.toNat, by omega⟩
  rw [Int.toNat_natCast] at q
  obtain ⟨t, T, rfl⟩ := h
  refine rd_ownI ia ⟨a, t, n, rfl, T, by omega, by omega, ok_mul ok (by omega) (by omega) (by rw [← Int.natCast_mul] at hz; omega), Nat.le_trans (mul_length _ _) hl, fun H' x z S Z e => q x H' S ⟨z, Z, e⟩⟩
theorem rd_mRetyped {k c : Nat} (h : TX K CT CP H a ss) (hk : k < (tyL ss).length) (hc : 97 ≤ c ∧ c ≤ 122) (q : ∀ p H', Same H H' → TX K CT CP H' p (rt k c 0 ss) → Q (.ref p) H') : sp_Text_retyped K CT CP [.ref a, .int (k : Nat), .str ⟨#[c]⟩] H Q E := by
  obtain ⟨t, T, rfl⟩ := h
  exact ⟨a, t, k, c, rfl, T, hk, hc.1, hc.2, fun H' x z S Z e => q x H' S ⟨z, Z, e⟩⟩
theorem rd_opEq (h : TX K CT CP H a ss) (g : TX K CT CP H b tt) (q : Q (.bl (decide (ss = tt))) H) : rEqO K CT (sp_Text_eq K CT CP) E (.ref a) (.ref b) H Q := by
  have ia := h.insA
  have ib := g.insA
  obtain ⟨t, T, rfl⟩ := h
  obtain ⟨u, U, rfl⟩ := g
  exact rd_eqO ia ib ⟨a, b, t, rfl, T, .inl ⟨u, U, q⟩⟩
theorem rd_opEqT (h : TX K CT CP H a ss) (g : TS' K H b tt) (q : Q (.bl false) H) : rEqO K CT (sp_Text_eq K CT CP) E (.ref a) (.ref b) H Q := by
  have ia := h.insA
  obtain ⟨t, T, rfl⟩ := h
  obtain ⟨ms, g, _⟩ := g
  exact rd_eqOT ia g ⟨a, b, t, rfl, T, .inr ⟨ms, g, q⟩⟩
theorem rd_opNe (h : TX K CT CP H a ss) (g : TX K CT CP H b tt) (q : Q (.bl (!decide (ss = tt))) H) : rNeO CT (sp_Text_eq K CT CP) E (.ref a) (.ref b) H Q := by
  have ia := h.insA
  have ib := g.insA
  obtain ⟨t, T, rfl⟩ := h
  obtain ⟨u, U, rfl⟩ := g
  exact rd_neO ia ib ⟨a, b, t, rfl, T, .inl ⟨u, U, _, rfl, q⟩⟩
theorem rd_andrfl {α : Type} {x : α} {A : Prop} (h : A) : x = x ∧ A := ⟨rfl, h⟩
theorem rd_mTx {m : Str} {ta : TA} {sp : Sp} {σ : St} (h : TX K CT CP H a ss) (hm : m ≠ "total" ∧ m ≠ "parts" ∧ m ≠ "typed" ∧ m ≠ "made") (q : ta σ H fun vs H2 => sp (.ref a :: vs) H2 Q E) : ∃ a', V.ref a = .ref a' ∧ InsM H a' CT m ∧ ta σ H fun vs H2 => sp (V.ref a :: vs) H2 Q E := rd_m_at (h.insM hm) q
theorem rd_lenN {l : Addr} (h : H l = some (.lst (natV L))) (q : Q (.int (L.length : Nat)) H) : rLenA K [.ref l] H Q := rd_len_lst (SqL.of h) (by rw [natV_len]; exact q)
theorem rd_lenL {l : Addr} (h : H l = some (.lst xs)) (q : Q (.int (xs.length : Nat)) H) : rLenA K [.ref l] H Q := rd_len_lst (SqL.of h) q
theorem rd_lenS {y : List Nat} (hz : y.length ≤ 16777216) (q : Q (.int (y.length : Nat)) H) : rLenA K [.str (mkS y)] H Q := rd_len_str (by rw [mkS_len, sizeLine_eq]; exact hz) (by rw [mkS_len]; exact q)
theorem rd_ixN {l : Addr} (h : H l = some (.lst (natV L))) (h0 : 0 ≤ i) (h1 : i < L.length) (q : Q (.int (L[i.toNat]?.getD 0 : Nat)) H) : rIx K (.ref l) (.int i) H Q := by
  obtain ⟨n, rfl⟩ : ∃ n : Nat, i = n := ⟨i.toNat, by omega⟩
  rw [Int.toNat_natCast] at q
  refine rd_ixLn (SqL.of h) ?_ q
  unfold natV
  rw [List.getElem?_map, List.getElem?_eq_getElem (by omega)]
  rfl
theorem rd_ixC {y : List Nat} (hz : y.length ≤ 16777216) (h0 : 0 ≤ i) (h1 : i < y.length) (q : Q (.str ⟨#[y[i.toNat]?.getD 0]⟩) H) : rIx K (.str (mkS y)) (.int i) H Q := by
  obtain ⟨n, rfl⟩ : ∃ n : Nat, i = n := ⟨i.toNat, by omega⟩
  rw [Int.toNat_natCast] at q
  refine rd_ixSn (by rw [mkS_len, sizeLine_eq]; exact hz) ?_ q
  rw [tl_mkS, List.getElem?_eq_getElem (by omega)]
  rfl
theorem rd_eqTT (h : TS' K H a ss) (g : TS' K H b tt) (o1 : okFrom 0 ss) (o2 : okFrom 0 tt) (q : Q (.bl (decide (ss = tt))) H) : rEqA K (.ref a) (.ref b) H Q := by
  obtain ⟨ms, h1, st1⟩ := h
  obtain ⟨ns, h2, st2⟩ := g
  refine rd_eq_dat (.tup h1 st1.dp) (.tup h2 st2.dp) (steps_dok o1).shaped (steps_dok o2).shaped ?_
  simp only [PyData.eqv]
  rw [stDs_eq]
  exact q
theorem rd_neTT (h : TS' K H a ss) (g : TS' K H b tt) (o1 : okFrom 0 ss) (o2 : okFrom 0 tt) (q : Q (.bl (!decide (ss = tt))) H) : rNeA K (.ref a) (.ref b) H Q := by
  obtain ⟨ms, h1, st1⟩ := h
  obtain ⟨ns, h2, st2⟩ := g
  refine rd_ne_dat (.tup h1 st1.dp) (.tup h2 st2.dp) (steps_dok o1).shaped (steps_dok o2).shaped ?_
  simp only [PyData.eqv]
  rw [stDs_eq]
  exact q
theorem ts_nil {p : Addr} (e : H p = some (.tup [])) : TS' K H p [] := ⟨[], SqT.of e, StepsAt.nil⟩
def sgn (c : Nat) : Str := ⟨#[c]⟩
theorem joinL_one : ∀ l : List Nat, joinL [] (l.map fun c => [c]) = l
  | [] => rfl
  | [_] => rfl
  | x :: y :: r => by
    show [x] ++ ([] ++ joinL [] ((y :: r).map fun c => [c])) = x :: y :: r
    rw [joinL_one (y :: r)]; rfl
theorem join_signs (l : List Nat) : Txt.join "" (l.map sgn) = mkS l := by
  apply ext_tl
  rw [join_eq, tl_join, List.map_map, show tl ("" : Str) = [] from rfl, tl_mkS]
  exact joinL_one l
theorem sum_ones (l : List Nat) : ((l.map sgn).map (·.length)).sum = l.length := by
  induction l with
  | nil => rfl
  | cons x l ih =>
    simp only [List.map_cons, List.sum_cons, List.length_cons] at ih ⊢
    rw [ih, show (sgn x).length = 1 from rfl]; omega
def sgV (l : List Nat) : List V := l.map fun c => V.str ⟨#[c]⟩
theorem rd_joinS {l : Addr} (h : H l = some (.lst (sgV L))) (hz : L.length ≤ 16777216) (q : Q (.str (mkS L)) H) : rJoin K (.str "") [.ref l] H Q := by
  refine ⟨"", l, L.map sgn, rfl, rfl, .inl (SqL.of (by rw [h]; unfold sgV; rw [List.map_map]; rfl)), ?_, by rw [join_signs]; exact q⟩
  rw [sum_ones, show ("" : Str).length = 0 from rfl]; omega
theorem kp_natV {l : Addr} (h : H l = some (.lst (natV L))) (k : Kp H H') : H' l = some (.lst (natV L)) := k _ _ nr_natV h
theorem nr_sgV : ¬ isRow (.lst (sgV L)) := nr_vals fun v hv => by obtain ⟨i, _, rfl⟩ := List.mem_map.mp hv; rfl
theorem kp_sgV {l : Addr} (h : H l = some (.lst (sgV L))) (k : Kp H H') : H' l = some (.lst (sgV L)) := k _ _ nr_sgV h
theorem dp_natV {l : Addr} (h : H l = some (.lst (natV L))) : Dp K H (.ref l) (.list (L.map fun m => PyData.int (m : Nat))) := .lst (SqL.of h) dp_nats
theorem nat_eqv : ∀ a b : List Nat, PyData.eqvAll (a.map fun m => PyData.int (m : Nat)) (b.map fun m => PyData.int (m : Nat)) = decide (a = b)
  | [], [] => by simp [PyData.eqvAll]
  | [], _ :: _ => by simp [PyData.eqvAll]
  | _ :: _, [] => by simp [PyData.eqvAll]
  | x :: a, y :: b => by
    simp only [List.map_cons, PyData.eqvAll, nat_eqv a b, PyData.eqv]
    by_cases h : x = y <;> by_cases h2 : a = b <;> simp [h, h2]
    omega
theorem rd_neNN {l m : Addr} {M : List Nat} (h : H l = some (.lst (natV L))) (g : H m = some (.lst (natV M))) (q : Q (.bl (!decide (L = M))) H) : rNeA K (.ref l) (.ref m) H Q :=
  rd_ne_dat (dp_natV h) (dp_natV g) (nats_dok.shaped (by decide)) (nats_dok.shaped (by decide)) (by simp only [PyData.eqv]; rw [nat_eqv]; exact q)
theorem rd_eqNN {l m : Addr} {M : List Nat} (h : H l = some (.lst (natV L))) (g : H m = some (.lst (natV M))) (q : Q (.bl (decide (L = M))) H) : rEqA K (.ref l) (.ref m) H Q :=
  rd_eq_dat (dp_natV h) (dp_natV g) (nats_dok.shaped (by decide)) (nats_dok.shaped (by decide)) (by simp only [PyData.eqv]; rw [nat_eqv]; exact q)
theorem plain_nat {l : Addr} (h : H l = some (.lst (natV L))) : Plain (Itl K l) L.length (fun i => .int (L[i]?.getD 0 : Nat)) H where
  stop := fun H1 s => ⟨natV L, SqL.of (s _ _ h), by rw [natV_len]; exact Nat.le_refl _⟩
  go := fun i H1 s hi => ⟨natV L, .int (L[i]?.getD 0 : Nat), SqL.of (s _ _ h), by unfold natV; rw [List.getElem?_map, List.getElem?_eq_getElem hi]; rfl⟩
  yld := fun i H1 x H2 s hi y => ⟨y.1, by
    have e := y.2 _ (SqL.of (s _ _ h))
    unfold natV at e
    rw [List.getElem?_map, List.getElem?_eq_getElem hi] at e
    rw [List.getElem?_eq_getElem hi]
    exact (Option.some.inj e).symm⟩
/-- the letters of all places -/
def ls (ss : List Stp) : List Nat := (ks ss).map (lat ss)
/-- a new object o of n items -/
def rNew (n : Nat) (o : HO) (H1 : Hp) (Q : VK) : Prop := n ≤ sizeLine ∧ ∀ p, H1 p = none → Q (.ref p) (upd H1 p o)
theorem rd_tupN {t : TA} {σ : St} (h : t σ H fun xs H1 => rNew xs.length (.tup xs) H1 Q) : tTup t σ H Q := h
theorem rd_lstN {t : TA} {σ : St} (h : t σ H fun xs H1 => rNew xs.length (.lst xs) H1 Q) : tLst t σ H Q := h
theorem rd_new {n : Nat} (hz : n ≤ sizeLine) (q : ∀ p H', Same H H' → H' p = some o → H p = none → Q (.ref p) H') : rNew n o H Q := ⟨hz, fun p hp => q p _ (Same.new (Same.refl _) hp) upd_same hp⟩
theorem rd_nameE {n : Nat} {σ σ' : St} {R : St → Hp → Prop} (e : σ.set n (some v) = σ') (h : R σ' H) : gName n v σ H R := by subst e; exact h
theorem rd_exStr {x : Str} {A : Prop} (h : A) : (∃ a, V.str x = .str a) ∧ A := ⟨⟨x, rfl⟩, h⟩
theorem rd_iNat {l : Addr} {A : Prop} (h : H l = some (.lst (natV L))) (q : A) : (∃ xs, SqL K H l xs) ∧ A := ⟨⟨_, SqL.of h⟩, q⟩
theorem rd_startE {N : List Str} {vs : List V} {σ' : St} {D : Ends} {t : TS} (e : start N vs = σ') (h : t D σ' H) : t D (start N vs) H := by subst e; exact h
end
end L2.Px
set_option Elab.async false
set_option linter.all false
set_option maxRecDepth 100000
set_option maxHeartbeats 1000000
namespace L2.Px
open PySem PySem.Spec PyProof.Rows StX ClX
section
variable {K : PySem.W.Frag} {h : Heap} {mg : Str → Option Value} {x m qual : Str} {st : Stmt} {ps : List Str} {C D f p g : Addr} {oc kV dc pm cd ct mc : Value} {od an : Option Addr} {sl : Array (Option Value)} {pv : Str} {rest : List Value}
/-- how a def binds n plain arguments -/
def BF (x qual : Str) (st : Stmt) (ps : List Str) : Prop := ∀ (kV doc pm : Value) (an : Option Addr) (cdv ct : Value) (us : List Value), us.length = ps.length → bindArgs (PySem.W.fnOf x qual (defArgs st) (defBody st) (defScope st) .none kV doc pm an cdv ct) ⟨us, []⟩ = pure (ps.zip us)
def BFS (x qual : Str) (st : Stmt) (ps : List Str) (pv : Str) : Prop := ∀ (kV doc pm : Value) (an : Option Addr) (cdv ct : Value) (us rest : List Value), us.length = ps.length → bindArgs (PySem.W.fnOf x qual (defArgs st) (defBody st) (defScope st) .none kV doc pm an cdv ct) ⟨us ++ rest, []⟩ = (newTuple rest >>= fun t => pure (ps.zip us ++ [(pv, t)]))
/-- the def object at f, as K has it -/
def AtF (K : PySem.W.Frag) (x qual : Str) (st : Stmt) (f : Addr) : Prop := ∃ oc od kV dc pm an cd ct sl, K.lookup f = some ⟨oc, od, .func (PySem.W.fnOf x qual (defArgs st) (defBody st) (defScope st) .none kV dc pm an cd ct), sl⟩ ∧ PySem.W.codeIn K cd qual = true
theorem atF (l : K.lookup f = some ⟨oc, od, .func (PySem.W.fnOf x qual (defArgs st) (defBody st) (defScope st) .none kV dc pm an cd ct), sl⟩) (c : PySem.W.codeIn K cd qual = true) : AtF K x qual st f := ⟨_, _, _, _, _, _, _, _, _, l, c⟩
theorem AtF.fun (a : AtF K x qual st f) (k : PySem.W.keepIn K (.ref f) = true) : ∃ fd, Fun K x qual st f fd := let ⟨_, _, _, _, _, _, _, _, _, l, c⟩ := a; ⟨_, fun_mk (st := st) l c k⟩
theorem defG_mk (X : K.In h) (G : h.Ns mainGlobals mg) (a : PySem.W.nsIn K mainGlobals x = some (some (.ref f))) (l : AtF K x x st f) (k : PySem.W.keepIn K (.ref f) = true) (b : BF x x st ps) : DefG K mg x st ps := by
  obtain ⟨fd, F⟩ := l.fun k
  exact ⟨f, fd, F, PySem.W.mg_of X G a, F.binds b⟩
theorem defM_mk (at_ : PySem.W.findIn K (.ref C) m = some (some (.ref f))) (fn : PySem.W.isFn K (.ref f) = true) (l : AtF K m qual st f) (k : PySem.W.keepIn K (.ref f) = true) (b : BF m qual st ps) : DefM K C m qual st ps := by
  obtain ⟨fd, F⟩ := l.fun k
  exact ⟨f, fd, F, ⟨at_, fn, k⟩, F.binds b⟩
theorem defP_mk (at_ : PySem.W.findIn K (.ref C) m = some (some (.ref p))) (get : PySem.W.specialIn K (.ref p) "__get__" = some (some (.builtin "property.__get__"))) (tak : PySem.W.takesIn K (.ref p) = some true) (rc : PySem.W.recIn K p "property" = some (.ref g :: rest))
    (l : AtF K m qual st g) (k : PySem.W.keepIn K (.ref g) = true) (b : BF m qual st ["self"]) : DefP K C m qual st := by
  obtain ⟨fd, F⟩ := l.fun k
  exact ⟨p, g, fd, F, ⟨at_, get, tak, rest, rc⟩, F.binds b⟩
theorem defC_mk (rd : PySem.W.readsIn K C mc = true) (ga : PySem.W.specialIn K (.ref C) "__getattribute__" = some (some (.builtin "type.__getattribute__"))) (at_ : PySem.W.findCls K (.ref C) mc m = some (.get (.builtin "classmethod.__get__") (.ref p) .none (.ref C)))
    (rc : PySem.W.recIn K p "classmethod" = some (.ref g :: rest)) (fi : PySem.W.fnIn K g = true) (l : AtF K m qual st g) (k : PySem.W.keepIn K (.ref g) = true) (b : BF m qual st ps) : DefC K C m qual st ps := by
  obtain ⟨fd, F⟩ := l.fun k
  exact ⟨mc, p, g, fd, F, ⟨rd, ga⟩, ⟨at_, ⟨rest, rc⟩, fi⟩, F.binds b⟩
theorem defK_mk (mk : PySem.W.makesIn K C = true) (at_ : PySem.W.findIn K (.ref C) "__init__" = some (some (.ref f))) (fn : PySem.W.isFn K (.ref f) = true) (kc : PySem.W.keepIn K (.ref C) = true) (l : AtF K "__init__" qual st f) (k : PySem.W.keepIn K (.ref f) = true) (b : BF "__init__" qual st ps) : DefK K C qual st ps := by
  obtain ⟨fd, F⟩ := l.fun k
  exact ⟨f, fd, F, ⟨mk, at_, fn, kc⟩, F.binds b⟩
theorem defKS_mk (mk : PySem.W.makesIn K C = true) (at_ : PySem.W.findIn K (.ref C) "__init__" = some (some (.ref f))) (fn : PySem.W.isFn K (.ref f) = true) (kc : PySem.W.keepIn K (.ref C) = true) (l : AtF K "__init__" qual st f) (k : PySem.W.keepIn K (.ref f) = true) (b : BFS "__init__" qual st ps pv) : DefKS K C qual st ps pv := by
  obtain ⟨oc, od, kV, dc, pm, an, cd, ct, sl, l, c⟩ := l
  exact ⟨f, _, fun_mk (st := st) l c k, ⟨mk, at_, fn, kc⟩, fun us rest hl => b kV dc pm an cd ct us rest hl⟩
theorem loose_int {p : Program} {lv : List (Str × PySem.W.WData)} {i : Int} (XL : PySem.W.XL p lv mg h) (hm : (x, PySem.W.WData.int i) ∈ lv) : ∃ t, mg x = some (.int i t) := by
  obtain ⟨v, e, r⟩ := XL.2.val _ hm
  cases r
  exact ⟨_, e⟩
theorem const_int {i : Int} {t : Tok} (X : K.In h) (G : h.Ns mainGlobals mg) (a : PySem.W.nsIn K mainGlobals x = some (some (.int i t))) : ∃ t, mg x = some (.int i t) := ⟨t, PySem.W.mg_of X G a⟩
theorem const_str {z : Str} {t : Tok} (X : K.In h) (G : h.Ns mainGlobals mg) (a : PySem.W.nsIn K mainGlobals x = some (some (.str z t))) : ∃ t, mg x = some (.str z t) := ⟨t, PySem.W.mg_of X G a⟩
theorem kit_self : PySem.W.kitOne K (.ref C) (.ref C) = some true := if_pos (by simp)
theorem kit_cls2 {b : Bool} (hn : C ≠ D) (h1 : PySem.W.isClsIn K D = true) (h2 : PySem.W.typeIn K (.ref D) = some (.type "type")) (h3 : PySem.W.subIn K (.ref C) (.ref D) = some b) : PySem.W.kitOne K (.ref C) (.ref D) = some b := by
  unfold PySem.W.kitOne
  rw [if_neg (by simp [hn])]
  rw [show PySem.W.kitCls K (.ref C) (.ref D) = (if ((PySem.W.clsIn K D).isSome && PySem.W.typeIn K (.ref D) == some (.type "type")) = true then PySem.W.subIn K (.ref C) (.ref D) else none) from rfl, if_pos (by rw [Bool.and_eq_true]; exact ⟨h1, by rw [h2]; simp⟩)]
  exact h3
end
end L2.Px
set_option Elab.async false
set_option linter.all false
set_option maxRecDepth 100000
set_option maxHeartbeats 2000000
namespace L2.Px
open PySem PySem.Spec PyProof.Rows StX LamX
structure Kl (T : List (Addr × Str)) (H H' : Hp) : Prop where
  keep : ∀ b o, ¬ isRow o → (∀ ps, o ≠ .tbl ps) → H b = some o → H' b = some o
  rows : ∀ (b sa : Addr) (i s e : Int), H b = some (.lst [.ref sa, .int i, .int s, .int e]) → ∃ i' s' e' : Int, H' b = some (.lst [.ref sa, .int i', .int s', .int e'])
  tabs : Tabs T H → Tabs T H'
section
variable {T : List (Addr × Str)} {H H' H1 : Hp}
theorem Kl.refl : Kl T H H := ⟨fun _ _ _ _ h => h, fun _ _ _ _ _ h => ⟨_, _, _, h⟩, id⟩
theorem Kl.trans (a : Kl T H H1) (b : Kl T H1 H') : Kl T H H' := ⟨fun c o hc hn h => b.keep c o hc hn (a.keep c o hc hn h), fun c sa i s e h => let ⟨i', s', e', h'⟩ := a.rows c sa i s e h; b.rows c sa i' s' e' h', fun t => b.tabs (a.tabs t)⟩
theorem tabS_kp {P : Addr} {q : Str} (t : TabS H P q) (e : Kp H H') : TabS H' P q :=
  let ⟨ps, a, b, d⟩ := t
  ⟨ps, e _ _ id a, b, fun pos cv hc => let ⟨c, x, y⟩ := d pos cv hc; ⟨c, x, e _ _ id y⟩⟩
theorem Kl.kp (e : Kp H H') : Kl T H H' := ⟨fun b o hr _ h => e b o hr h, e.rows, fun t p hp => tabS_kp (t p hp) e⟩
theorem Kl.same (e : Same H H') : Kl T H H' := .kp (.same e)
theorem Kl.ext (e : ExtN H H') (t : Tabs T H') : Kl T H H' := ⟨fun b o _ hn h => e b o h hn, fun b sa i s n h => ⟨_, _, _, e _ _ h fun ps z => nomatch z⟩, fun _ => t⟩
theorem Kl.tup {K : PySem.W.Frag} {a : Addr} {xs : List V} (e : Kl T H H') (h : SqT K H a xs) : SqT K H' a xs := by
  rcases h with (h | ⟨o, h⟩) | h
  · exact .inl (.inl (e.keep _ _ nr_tup (fun ps z => nomatch z) h))
  · exact .inl (.inr ⟨o, e.keep _ _ nr_frz (fun ps z => nomatch z) h⟩)
  · exact .inr h
theorem Kl.lst {K : PySem.W.Frag} {a : Addr} {xs : List V} (e : Kl T H H') (n : ¬ isRow (.lst xs)) (h : SqL K H a xs) : SqL K H' a xs := by
  rcases h with (h | ⟨o, h⟩) | h
  · exact .inl (.inl (e.keep _ _ n (fun ps z => nomatch z) h))
  · exact .inl (.inr ⟨o, e.keep _ _ nr_frz (fun ps z => nomatch z) h⟩)
  · exact .inr h
end
/-- all but tables of code -/
structure Kx (T : List (Addr × Str)) (H H' : Hp) : Prop where
  keep : ∀ b o, (∀ ps, o ≠ .tbl ps) → H b = some o → H' b = some o
  tabs : Tabs T H → Tabs T H'
section
variable {T : List (Addr × Str)} {H H' H1 : Hp}
theorem Kx.refl : Kx T H H := ⟨fun _ _ _ h => h, id⟩
theorem Kx.trans (a : Kx T H H1) (b : Kx T H1 H') : Kx T H H' := ⟨fun c o hn h => b.keep c o hn (a.keep c o hn h), fun t => b.tabs (a.tabs t)⟩
theorem Kx.kl (e : Kx T H H') : Kl T H H' := by
  refine ⟨fun b o hr hn h => e.keep b o hn h, fun b sa i s n h => ?_, e.tabs⟩
  exact ⟨i, s, n, e.keep _ _ (fun ps z => nomatch z) h⟩
theorem Kx.same (e : Same H H') : Kx T H H' := ⟨fun b o _ h => e b o h, (Kl.same e).tabs⟩
theorem Kx.ext (e : ExtN H H') (t : Tabs T H') : Kx T H H' := ⟨fun b o hn h => e b o h hn, fun _ => t⟩
theorem Kx.tup {K : PySem.W.Frag} {a : Addr} {xs : List V} (e : Kx T H H') (h : SqT K H a xs) : SqT K H' a xs := e.kl.tup h
theorem Kx.lst {K : PySem.W.Frag} {a : Addr} {xs : List V} (e : Kx T H H') (h : SqL K H a xs) : SqL K H' a xs := by
  rcases h with (h | ⟨o, h⟩) | h
  · exact .inl (.inl (e.keep _ _ (fun ps z => nomatch z) h))
  · exact .inl (.inr ⟨o, e.keep _ _ (fun ps z => nomatch z) h⟩)
  · exact .inr h
theorem Kx.row {K : PySem.W.Frag} {r : Addr} (e : Kx T H H') (h : RowAt K H r) : RowAt K H' r := let ⟨sa, sc, i, s, n, a, b⟩ := h.ex; ⟨sa, sc, i, s, n, e.keep _ _ (fun ps z => nomatch z) a, e.lst b⟩
end
structure FunC (K : PySem.W.Frag) (x qual : Str) (st : Stmt) (c f : Addr) (fd : FuncData) : Prop where
  ex : ∃ (oc : Value) (od : Option Addr) (kV doc pm : Value) (an : Option Addr) (ct : Value) (osl : Array (Option Value)),
    fd = PySem.W.fnOf x qual (defArgs st) (defBody st) (defScope st) .none kV doc pm an (.ref c) ct ∧ K.lookup f = some ⟨oc, od, .func fd, osl⟩ ∧ PySem.W.codeIn K (.ref c) qual = true
  kp : PySem.W.keepIn K (.ref f) = true
theorem FunC.fn {K : PySem.W.Frag} {x qual : Str} {st : Stmt} {c f : Addr} {fd : FuncData} (F : FunC K x qual st c f fd) : Fun K x qual st f fd :=
  let ⟨oc, od, kV, doc, pm, an, ct, osl, e, l, h⟩ := F.ex
  ⟨⟨oc, od, kV, doc, pm, an, _, ct, osl, e, l, h⟩, F.kp⟩
section
variable {P : Program} {w : World} {K : PySem.W.Frag} {mg : Str → Option Value} {base : Heap}
theorem FunC.ok {x qual : Str} {st : Stmt} {c f : Addr} {fd : FuncData} {N ps : List Str} {k : Nat} {sp : Sp} (F : FunC K x qual st c f fd) (S : FnScope N ps (defScope st)) (len : ∀ vs H Q E, sp vs H Q E → vs.length = ps.length)
    (hbody : ∀ (A : Around) (outer : List Env) (s : Shared) (H : Hp) (vs : List V) (Q : VK) (E : XK), Room k (A.deeper (envOfC qual (defScope st) s.heap.objs.size f (.ref c))) → sp vs H Q E →
      ∃ t, PSs (cxOf CX0 P w K mg base N qual (defScope st) f (.ref c) A outer s H E).nox (defBody st) t ∧ t { nx := fun _ H' => Q .non H', rt := Q } (start N vs) H) : FnOk P w K mg base CX0 (k + 1) f fd ps sp := by
  obtain ⟨oc, od, kV, doc, pm, an, ct, osl, rfl, lk, hcd⟩ := F.ex
  refine fn_of lk hcd S len fun A outer s H vs Q E hr hsp => ?_
  obtain ⟨t, h, q⟩ := hbody A outer s H vs Q E hr hsp
  exact ⟨t, h.nox, q⟩
end
/-- a def of the top, its code object at c -/
def DefGC (K : PySem.W.Frag) (mg : Str → Option Value) (x : Str) (st : Stmt) (ps : List Str) (c : Addr) : Prop := ∃ f fd, FunC K x x st c f fd ∧ mg x = some (.ref f) ∧ Binds K fd ps []
section
variable {P : Program} {w : World} {K : PySem.W.Frag} {mg : Str → Option Value} {base : Heap} {k : Nat} {ps : List Str} {sp : Sp} {x : Str} {st : Stmt} {c : Addr}
theorem DefGC.ok {N : List Str} (D : DefGC K mg x st ps c) (S : FnScope N ps (defScope st)) (len : ∀ vs H Q E, sp vs H Q E → vs.length = ps.length)
    (hbody : ∀ (f : Addr) (A : Around) (outer : List Env) (s : Shared) (H : Hp) (vs : List V) (Q : VK) (E : XK), Room k (A.deeper (envOfC x (defScope st) s.heap.objs.size f (.ref c))) → sp vs H Q E →
      ∃ t, PSs (cxOf CX0 P w K mg base N x (defScope st) f (.ref c) A outer s H E).nox (defBody st) t ∧ t { nx := fun _ H' => Q .non H', rt := Q } (start N vs) H) : GOk P w K mg base CX0 (k + 1) x sp := by
  obtain ⟨f, fd, F, a, b⟩ := D
  exact ⟨f, FnOk.toR (F.ok S len fun A outer s H vs Q E hr h => hbody f A outer s H vs Q E hr h) b, a, F.kp⟩
theorem DefGC.g (D : DefGC K mg x st ps c) : DefG K mg x st ps := let ⟨f, fd, F, a, b⟩ := D; ⟨f, fd, F.fn, a, b⟩
end
def lamOb (q : Str) (params : Arguments) (body : Expr) (scope : Scope) (cl : List (Str × Addr)) (dV : Value) (f c' : Addr) : HO :=
  .ext fun h => ∃ doc pm ctv : Value, h.get? f = some (PySem.W.kdv_obj "<lambda>" q params (.expr body) scope cl dV doc pm c' ctv)
/-- its names: captured ones, globals, and parameters bs that the maker does not know -/
structure LamC (N : List Str) (sc scope : Scope) (bs : List Str) : Prop where
  kind : scope.kind = .function
  co : scope.isCoroutine = false
  gen : scope.isGenerator = false
  own : ∀ y ∈ scope.names, y.2 ≠ .cell ∧ (y.2 = .local → y.1 ∉ N)
  free : ∀ y ∈ scope.names, y.2 = .free → sc.names.lookup y.1 = some .cell ∨ sc.names.lookup y.1 = some .free
  par : ∀ y ∈ bs, scope.names.lookup y = some .local
def lamCB (N : List Str) (sc scope : Scope) (bs : List Str) : Bool :=
  decide (scope.kind = .function) && (!scope.isCoroutine && (!scope.isGenerator && ((scope.names.all fun y => !decide (y.2 = .cell) && ((!decide (y.2 = .local) || !decide (y.1 ∈ N)) && (!decide (y.2 = .free) || (decide (sc.names.lookup y.1 = some .cell) || decide (sc.names.lookup y.1 = some .free))))) && bs.all fun y => decide (scope.names.lookup y = some .local))))
theorem lamC_by {N : List Str} {sc scope : Scope} {bs : List Str} (h : lamCB N sc scope bs = true) : LamC N sc scope bs := by
  unfold lamCB at h
  simp only [Bool.and_eq_true, Bool.or_eq_true, Bool.not_eq_true', decide_eq_true_eq, decide_eq_false_iff_not, List.all_eq_true] at h
  obtain ⟨h1, h2, h3, h4, h5⟩ := h
  refine ⟨h1, h2, h3, fun y hy => ⟨(h4 y hy).1, fun e => ((h4 y hy).2.1).elim (fun z => absurd e z) id⟩, fun y hy e => ((h4 y hy).2.2).elim (fun z => absurd e z) id, h5⟩
/-- how it binds nothing: no parameter, or one with a default -/
def LamB (params : Arguments) (body : Expr) (scope : Scope) (dV : Value) (bs : List Str) (H : Hp) : Prop :=
  (dV = .none ∧ bs = [] ∧ ∀ (q : Str) (cl : List (Str × Addr)) (doc pm cv ctv : Value), bindArgs (PySem.W.kdv_fn "<lambda>" q params (.expr body) scope cl .none doc pm cv ctv) ⟨[], []⟩ = pure []) ∨
    ∃ (T : Addr) (v : V) (b : Str), dV = .ref T ∧ bs = [b] ∧ H T = some (.tup [v]) ∧ ∀ (q : Str) (cl : List (Str × Addr)) (doc pm cv ctv u : Value), ∃ kk, bindArgs (PySem.W.kdv_fn "<lambda>" q params (.expr body) scope cl (.ref T) doc pm cv ctv) ⟨[], []⟩ = seqItems? (.ref T) >>= kk ∧ kk (some #[u]) = pure [(b, u)]
/-- at f stands a lambda of X's def whose body reads as t -/
def IsLam (X : Cx) (k : Nat) (t : XK → TE) (f : Addr) (H : Hp) : Prop := ∃ (params : Arguments) (body : Expr) (scope : Scope) (dV : Value) (bs : List Str) (c' : Addr),
  LamC X.N X.env.scope scope bs ∧ H f = some (lamOb (X.env.qual ++ "<lambda>") params body scope (cloFrom X.env.cells scope.names []) dV f c') ∧ H c' = some (CodeO c' (X.env.qual ++ "<lambda>")) ∧ LamB params body scope dV bs H ∧
  ∀ (A : Around) (outer : List Env) (s : Shared) (H1 : Hp) (E : XK), Room k (A.deeper (lamEnv X scope s.heap.objs.size f c')) → PE (lamCx X A outer s H1 E scope f c') body (t E)
theorem IsLam.mono {X : Cx} {k : Nat} {t : XK → TE} {f : Addr} {H H' : Hp} (h : IsLam X k t f H) (e : ∀ b o, ¬ isRow o → (∀ ps, o ≠ .tbl ps) → H b = some o → H' b = some o) : IsLam X k t f H' := by
  obtain ⟨p, b, sc, dV, bs, c', l, h1, h2, h3, h4⟩ := h
  refine ⟨p, b, sc, dV, bs, c', l, e _ _ id (fun ps z => nomatch z) h1, e _ _ id (fun ps z => nomatch z) h2, ?_, h4⟩
  rcases h3 with h3 | ⟨T, v, y, a1, a2, a3, a4⟩
  · exact .inl h3
  · exact .inr ⟨T, v, y, a1, a2, e _ _ nr_tup (fun ps z => nomatch z) a3, a4⟩
theorem IsLam.kl {X : Cx} {k : Nat} {t : XK → TE} {f : Addr} {H H' : Hp} {T : List (Addr × Str)} (h : IsLam X k t f H) (e : Kl T H H') : IsLam X k t f H' := h.mono e.keep
theorem LamC.has {N : List Str} {X : Cx} {scope : Scope} {bs : List Str} (L : LamC N X.env.scope scope bs) (ok : X.Ok) : ∀ y ∈ scope.names, y.2 = .free → ∃ c, X.env.cells.lookup y.1 = some c := fun y hy e =>
  (L.free y hy e).elim (fun k => ok.has _ (.inl k)) fun k => ok.has _ (.inr k)
section
variable {X : Cx} {pins : List (Addr × Obj)} {σ : St} {H : Hp} {s : Shared}
theorem lam_ob {q : Str} {params : Arguments} {body : Expr} {scope : Scope} {cl : List (Str × Addr)} {dV doc pm ctv : Value} {c' : Addr} {t' : Nat} (I : Inv X pins σ H s) :
    Inv X pins σ (upd H s.heap.objs.size (lamOb q params body scope cl dV s.heap.objs.size c')) { s with heap := s.heap.push (PySem.W.kdv_obj "<lambda>" q params (.expr body) scope cl dV doc pm c' ctv), toks := t' } := by
  have e := Heap.get?_push_size s.heap (o := PySem.W.kdv_obj "<lambda>" q params (.expr body) scope cl dV doc pm c' ctv) rfl
  exact I.laid (fun b u z => Heap.get?_push_of_some _ z) (Nat.le_refl _) ⟨⟨doc, pm, ctv, e⟩, ⟨_, e⟩, fun _ _ ⟨x, y, z, g⟩ st => ⟨x, y, z, st _ g⟩⟩
theorem lam_tail {T : List (Addr × Str)} {c P : Addr} {params : Arguments} {body : Expr} {scope : Scope} {pos : Pos} {fl : Nat} {dV : Value} {E : Value → Shared → Prop} {Q : Value → Shared → Prop} (I : Inv X pins σ H s) (TB : TabB X.base X.mg c P) (hcode : X.env.code = .ref c)
    (hm : (P, X.env.qual ++ "<lambda>") ∈ T) (hu : ∀ p ∈ T, p.1 = P → p.2 = X.env.qual ++ "<lambda>") (hT : Tabs T H) (hfree : ∀ y ∈ scope.names, y.2 = .free → ∃ c, X.env.cells.lookup y.1 = some c)
    (h : ∀ (f c' : Addr) (H1 : Hp) (s' : Shared), Inv X pins σ H1 s' → Kx T H H1 → H f = none → H1 f = some (lamOb (X.env.qual ++ "<lambda>") params body scope (cloFrom X.env.cells scope.names []) dV f c') → H1 c' = some (CodeO c' (X.env.qual ++ "<lambda>")) → Q (.ref f) s') :
    wpAny (model X.prog X.w) X.A (makeTail "<lambda>" (X.env.qual ++ "<lambda>") params (.expr body) scope X.env dV .none none pos fl) Q E s := by
  obtain ⟨ps, hP, tr, am⟩ := hT _ hm
  have atP : s.heap.get? P = some { cls := .none, data := .fields ps } := I.hok P _ hP
  have gG := I.mod.glob.keeps I.bk
  have bG : s.heap.BuiltinsAt X.mg P := TB.bm.keeps I.bk
  cases hc : codeAmong pos ps.toList with
  | some cv =>
    obtain ⟨c', rfl, hco⟩ := am pos cv hc
    refine PySem.W.kdv_makeTailHit (mg := X.mg) (closure_ok hfree) I.ok.glob gG hcode (TB.code.keeps I.bk) atP tr hc bG fun ctv doc h' tk hx hsz => ?_
    have I1 : Inv X pins σ H { s with heap := h' } := I.kept (t' := s.toks) hx
    have nF : H h'.objs.size = none := I.hok.fresh hsz
    exact h _ c' _ _ (lam_ob (t' := tk) (doc := doc) (pm := (X.mg "__name__").getD .none) (ctv := ctv) I1) (Kx.same (Same.new (Same.refl _) nF)) nF upd_same (lk_new nF hco)
  | none =>
    refine PySem.W.kdv_makeTail (mg := X.mg) (closure_ok hfree) I.ok.glob gG hcode (TB.code.keeps I.bk) atP tr hc TB.gP bG fun c' ctv doc h' tk hx hge hlt hrec htb => ?_
    obtain ⟨c2, oc, vs, t, e2, hoc, hd, hv⟩ := hrec
    obtain rfl := Value.ref.inj e2
    have nC : H c' = none := I.hok.fresh hge
    have hsz : s.heap.objs.size ≤ h'.objs.size := Nat.le_trans hge (Nat.le_of_lt hlt)
    have I1 := inv_table (t' := s.toks) (more := #[rawInt pos.line, rawInt pos.col, .ref c']) (h' := h') I hP hx htb hge ⟨oc, vs, t, hoc, hd, hv⟩
    generalize hH1 : upd (upd H P (.tbl (ps ++ #[rawInt pos.line, rawInt pos.col, .ref c']))) c' (CodeO c' (X.env.qual ++ "<lambda>")) = H1 at I1
    have eN : ExtN H H1 := fun b o e n => by
      have nP : b ≠ P := fun z => n ps (Option.some.inj (e.symm.trans (by rw [z]; exact hP)))
      rw [← hH1, upd_ne (ne_of_none e nC), upd_ne nP]; exact e
    have cN : H1 c' = some (CodeO c' (X.env.qual ++ "<lambda>")) := by rw [← hH1, upd_same]
    have T1 : Tabs T H1 := fun p hp => by
      by_cases hb : p.1 = P
      · rw [hu p hp hb, hb]
        have eL : (ps ++ #[rawInt pos.line, rawInt pos.col, .ref c']).toList = ps.toList ++ [rawInt pos.line, rawInt pos.col, .ref c'] := by simp
        refine ⟨ps ++ #[rawInt pos.line, rawInt pos.col, .ref c'], ?_, eL ▸ PySem.TriplesOk_snoc _ _ _ _ tr, fun p' cv hcv => ?_⟩
        · rw [← hH1, upd_ne (ne_of_none hP nC), upd_same]
        · rw [eL] at hcv
          rcases among_app _ tr hcv with z | z
          · obtain ⟨d, e1, e3⟩ := am p' cv z
            exact ⟨d, e1, eN _ _ e3 codeO_ne⟩
          · exact ⟨c', z, cN⟩
      · obtain ⟨ps', a1, a2, a3⟩ := hT p hp
        refine ⟨ps', ?_, a2, fun p' cv hcv => ?_⟩
        · rw [← hH1, upd_ne (ne_of_none a1 nC), upd_ne hb]; exact a1
        · obtain ⟨d, e1, e3⟩ := a3 p' cv hcv
          exact ⟨d, e1, eN _ _ e3 codeO_ne⟩
    have nF1 : H1 h'.objs.size = none := I1.hok.fresh (Nat.le_refl _)
    have nF : H h'.objs.size = none := I.hok.fresh hsz
    exact h _ c' _ _ (lam_ob (t' := tk) (doc := doc) (pm := (X.mg "__name__").getD .none) (ctv := ctv) I1) ((Kx.ext eN T1).trans (Kx.same (Same.new (Same.refl _) nF1))) nF upd_same (lk_new nF1 cN)
end
/-- the reading: a new lambda at f, known as IL -/
def tMkL (T : List (Addr × Str)) (IL : Addr → Hp → Prop) : TE := fun σ H Q => Tabs T H ∧ ∀ f H1, Kx T H H1 → H f = none → IL f H1 → Q (.ref f) H1
section
variable {X : Cx}
theorem pe_lam {T : List (Addr × Str)} {c P : Addr} {params : Arguments} {body : Expr} {scope : Scope} {pos : Pos} {k : Nat} {t : XK → TE} (TB : TabB X.base X.mg c P) (hcode : X.env.code = .ref c) (hm : (P, X.env.qual ++ "<lambda>") ∈ T) (hu : ∀ p ∈ T, p.1 = P → p.2 = X.env.qual ++ "<lambda>")
    (L : LamC X.N X.env.scope scope []) (hbody : ∀ (A : Around) (outer : List Env) (s : Shared) (H : Hp) (E : XK) (f c' : Addr), Room k (A.deeper (lamEnv X scope s.heap.objs.size f c')) → PE (lamCx X A outer s H E scope f c') body (t E))
    (hdef : defaultsOf params X.env = ([], []) := by rfl) (hb : ∀ (q : Str) (cl : List (Str × Addr)) (doc pm cv ctv : Value), bindArgs (PySem.W.kdv_fn "<lambda>" q params (.expr body) scope cl .none doc pm cv ctv) ⟨[], []⟩ = pure [] := by intros; rfl) :
    PE X (.Lambda params body scope pos) (tMkL T (IsLam X k t)) := by
  refine ⟨fun pins s σ H Q I ⟨hT, h⟩ => PySem.W.kla_eval hdef ?_⟩
  rw [makeFunction_eq]
  simp only [List.zip_nil_right, List.filterMap_nil, List.isEmpty_nil, if_true, pure_bind]
  refine lam_tail I TB hcode hm hu hT (L.has I.ok) fun f c' H1 s' I1 kl hf e1 e2 => ?_
  exact ⟨.ref f, H1, I1, rfl, h f H1 kl hf ⟨params, body, scope, .none, [], c', L, e1, e2, .inl ⟨rfl, rfl, hb⟩, fun A outer s H1 E => hbody A outer s H1 E f c'⟩⟩
/-- lambda b=v: body, b not read -/
theorem pe_lamD {T : List (Addr × Str)} {c P : Addr} {params : Arguments} {body : Expr} {scope : Scope} {pos : Pos} {k : Nat} {t : XK → TE} {e : Expr} {v : V} {b : Str} (TB : TabB X.base X.mg c P) (hcode : X.env.code = .ref c) (hm : (P, X.env.qual ++ "<lambda>") ∈ T) (hu : ∀ p ∈ T, p.1 = P → p.2 = X.env.qual ++ "<lambda>")
    (L : LamC X.N X.env.scope scope [b]) (hd : params.defaults = [e]) (hk0 : params.kw_defaults = []) (he : PE X e (tC v)) (hbody : ∀ (A : Around) (outer : List Env) (s : Shared) (H : Hp) (E : XK) (f c' : Addr), Room k (A.deeper (lamEnv X scope s.heap.objs.size f c')) → PE (lamCx X A outer s H E scope f c') body (t E))
    (hb : ∀ (T : Addr) (q : Str) (cl : List (Str × Addr)) (doc pm cv ctv u : Value), ∃ kk, bindArgs (PySem.W.kdv_fn "<lambda>" q params (.expr body) scope cl (.ref T) doc pm cv ctv) ⟨[], []⟩ = seqItems? (.ref T) >>= kk ∧ kk (some #[u]) = pure [(b, u)]) :
    PE X (.Lambda params body scope pos) (tMkL T (IsLam X k t)) := by
  refine ⟨fun pins s σ H Q I ⟨hT, h⟩ => PySem.W.kdv_lam (by rw [hd]; rfl) hk0 ?_⟩
  rw [hd]
  refine PySem.W.kdv_all1 (thn (he.run pins s σ H (fun x H1 => x = v ∧ H1 = H) I ⟨rfl, rfl⟩) fun u s1 ⟨x, H1, I1, r1, ex, eH⟩ => PySem.W.kdv_all0 ?_)
  rw [ex] at r1
  rw [eH] at I1
  rw [makeFunction_eq]
  simp only [List.zip_nil_right, List.filterMap_nil, List.isEmpty_nil, List.isEmpty_cons, Bool.false_eq_true, if_false, if_true, pure_bind]
  refine wpAny_bind (wpAny_newTextTuple ?_)
  have nT : H s1.heap.objs.size = none := I1.hok.fresh (Nat.le_refl _)
  have eT := Heap.get?_push_size s1.heap (o := { cls := .type "tuple", data := .seq [u].toArray }) rfl
  have I2 : Inv X pins σ (upd H s1.heap.objs.size (.tup [v])) { s1 with heap := s1.heap.push { cls := .type "tuple", data := .seq [u].toArray } } :=
    I1.laid (t' := s1.toks) (fun b u z => Heap.get?_push_of_some _ z) (Nat.le_refl _) ⟨one_line, [u], .cons r1 .nil, ⟨_, eT, rfl, _, rfl⟩⟩
  have k1 : Kx T H (upd H s1.heap.objs.size (.tup [v])) := Kx.same (Same.new (Same.refl _) nT)
  refine lam_tail I2 TB hcode hm hu (k1.tabs hT) (L.has I.ok) fun f c' H3 s' I3 kl hf e1 e2 => ?_
  have hf' : H f = none := by
    cases z : H f with
    | none => rfl
    | some o => rw [upd_ne (ne_of_none z nT), z] at hf; cases hf
  exact ⟨.ref f, H3, I3, rfl, h f H3 (k1.trans kl) hf' ⟨params, body, scope, _, [b], c', L, e1, e2, .inr ⟨_, v, b, rfl, rfl, kl.keep _ _ (fun ps z => nomatch z) upd_same, hb _⟩, fun A outer s H1 E => hbody A outer s H1 E f c'⟩⟩
end
end L2.Px
set_option Elab.async false
set_option linter.all false
set_option maxRecDepth 100000
set_option maxHeartbeats 2000000
namespace L2.Px
open PySem PySem.Spec PyProof.Rows StX LamX
/-- the def g calls what it got: TT is what it makes of the reading -/
def Gives (X : Cx) (Ng : List Str) (x : Str) (sg : Scope) (g : Addr) (cdg : Value) (bg : List Stmt) (a : Str) (TT : (XK → Hp → VK → Prop) → Hp → VK → Prop) : Prop :=
  ∀ (f : Addr) (s : Shared) (H : Hp) (Q : VK) (tl : XK → Hp → VK → Prop) (LP : Hp → Prop), Room 1 (X.A.deeper (envOfC x sg s.heap.objs.size g cdg)) →
    (∀ (W : WX) (pn : List (Addr × Obj)) (xe : Value → Shared → Prop) (E : XK) (p1 p2 : Pos), Takes ((cxOf CX0 X.prog X.w X.K X.mg X.base Ng x sg g cdg X.A X.stack s H E0).tr pn xe) W →
      PE ((cxOf CX0 X.prog X.w X.K X.mg X.base Ng x sg g cdg X.A X.stack s H E0).tr pn xe) (.Call (.Name a p1) [] [] p2) (fun σZ HZ Q => σZ[0]? = some (some (.ref f)) ∧ LP HZ ∧ (∀ cls d H', E cls d H' → W cls d σZ H') ∧ tl E HZ Q)) →
    LP H → TT tl H Q →
    ∃ t, PSs (cxOf CX0 X.prog X.w X.K X.mg X.base Ng x sg g cdg X.A X.stack s H E0).nox bg t ∧ t { nx := fun _ H' => Q .non H', rt := Q } (start Ng [.ref f]) H
section
variable {X : Cx} {pins0 : List (Addr × Obj)} {σ0 : St} {H0 H HZ : Hp} {s0 s s1 : Shared}
theorem clo_of {N : List Str} {scope : Scope} {bs : List Str} (L : LamC N X.env.scope scope bs) (ok : X.Ok) {y : Str} {c : Addr} (e : (cloFrom X.env.cells scope.names []).lookup y = some c) : X.env.cells.lookup y = some c :=
  NdefX.clo_cm (L.has ok) e
theorem clo_at {scope : Scope} {y : Str} (hl : scope.names.lookup y = some .free) : ∃ c, (cloFrom X.env.cells scope.names []).lookup y = some c := mem_lookup (cloFrom_has (acc := []) (PySem.mem_of_lookup hl))
/-- the lambda's frame is laid; what it captured is as in the maker's frame, at s0 -/
theorem lam_enter {A : Around} {outer : List Env} {E : XK} {scope : Scope} {bs : List Str} {f c' : Addr} {h₁ : Heap} {tk : Nat} {m : Str → Option Value} (I : Inv X pins0 σ0 H0 s0) (L : LamC X.N X.env.scope scope bs) (e0 : Env0 X.prog X.w X.K X.mg X.base A outer s1 HZ) (hd : A.handled = none)
    (un : ∀ y c, X.env.cells.lookup y = some c → ∀ ob, s0.heap.get? c = some ob → H0 c = none → (∃ sl, s1.heap.get? c = some { ob with slots := sl }) ∧ HZ c = none)
    (hns : h₁.Ns s1.heap.objs.size m) (kp : ∀ b o, s1.heap.get? b = some o → h₁.get? b = some o) : Inv (lamCx X A outer s1 HZ E scope f c') [] σ0 HZ { s1 with heap := h₁, toks := tk } := by
  have cell : ∀ {y : Str} {c : Addr} {v : Option Value}, X.env.cells.lookup y = some c → s0.heap.IsCell c v → h₁.IsCell c v ∧ HZ c = none := fun {y c v} e ⟨o, ho, hv⟩ => by
    obtain ⟨⟨sl, q⟩, n⟩ := un y c e o ho (I.freeC y c e)
    exact ⟨⟨_, kp _ _ q, hv⟩, n⟩
  have non : ∀ {b : Addr} {Z : Prop}, b ∈ ([] : List Addr) → Z := fun h => absurd h (by simp)
  have ok : (lamCx X A outer s1 HZ E scope f c').Ok := {
    mod := e0.mod, kind := L.kind, glob := rfl, blt := rfl, above := Nat.le_refl _
    inj := fun x y c a b => I.ok.inj x y c (clo_of L I.ok a) (clo_of L I.ok b)
    has := fun y hy => by
      have hy' : scope.names.lookup y = some .cell ∨ scope.names.lookup y = some .free := hy
      rcases hy' with z | z
      · exact absurd rfl (L.own _ (PySem.mem_of_lookup z)).1
      · exact clo_at z
    cab := fun y c z => absurd (show false = true from z) Bool.false_ne_true
    hd := fun _ => hd, frames := Around.frames_deeper e0.frames, stk := .inr ⟨rfl, rfl⟩
    exf := fun b z => non z, bs := e0.bs, bsz := e0.bsz, noex := fun b _ _ z => non z, exfs := fun b z => non z, funs := e0.funs, frf := e0.frf }
  refine ⟨ok, rfl, e0.bare, Un.kept kp, ⟨m, hns, fun i y v e1 e2 e3 => ?_⟩, fun y c e => ?_, e0.hok.fresh (Nat.le_refl _), fun y c e => ?_, fun q hq => absurd (show q ∈ ([] : List (Addr × Obj)) ++ [] from hq) (by simp), e0.hok.kept kp, I.len⟩
  · have vis : Vis scope y := e3
    rcases vis with k | k | k
    · exact absurd (List.mem_of_getElem? e1) ((L.own _ (PySem.mem_of_lookup k)).2 rfl)
    · exact absurd rfl (L.own _ (PySem.mem_of_lookup k)).1
    · have out := L.free _ (PySem.mem_of_lookup k) rfl
      obtain ⟨m0, _, look⟩ := I.loc
      obtain ⟨u, r, q⟩ := look i y v e1 e2 (out.elim (fun z => .inr (.inl z)) fun z => .inr (.inr z))
      obtain ⟨c, hc⟩ := clo_at (X := X) k
      rcases q with ⟨k', _⟩ | ⟨_, c3, e', z⟩
      · have k' : X.env.scope.names.lookup y = some .local := k'
        rcases out with z | z <;> exact absurd (k'.symm.trans z) (by simp)
      · obtain rfl := Option.some.inj (e'.symm.trans (clo_of L I.ok hc))
        exact ⟨u, r, .inr ⟨.inr k, _, hc, (cell e' z).1⟩⟩
  · obtain ⟨v, z⟩ := I.cell y c (clo_of L I.ok e)
    exact ⟨v, (cell (clo_of L I.ok e) z).1⟩
  · obtain ⟨v, z⟩ := I.cell y c (clo_of L I.ok e)
    exact (cell (clo_of L I.ok e) z).2
/-- how the lambda at f binds its nothing -/
theorem LamB.binds {params : Arguments} {body : Expr} {scope : Scope} {dV : Value} {bs : List Str} {q : Str} {cl : List (Str × Addr)} {doc pm cv ctv : Value} (hb : LamB params body scope dV bs H) (ht : ∀ T xs, H T = some (.tup xs) → ∃ its, Vals xs its ∧ s.heap.IsTuple T its.toArray) :
    ∃ bn : List (Str × Value), (∀ y ∈ bn, y.1 ∈ bs) ∧ BindsTo s (PySem.W.kdv_fn "<lambda>" q params (.expr body) scope cl dV doc pm cv ctv) ⟨[], []⟩ bn := by
  rcases hb with ⟨rfl, rfl, h⟩ | ⟨T, v, b, rfl, rfl, hT, h⟩
  · exact ⟨[], fun y hy => absurd hy (by simp), .of_eq (h _ _ _ _ _ _)⟩
  · obtain ⟨its, rv, o, ho, hc, n, hd⟩ := ht T _ hT
    obtain ⟨u, rfl, ru⟩ := rv.one
    obtain ⟨kk, h1, h2⟩ := h q cl doc pm cv ctv u
    exact ⟨[(b, u)], fun y hy => by rw [List.mem_singleton.mp hy]; exact List.mem_singleton.mpr rfl, .of_defaults rfl ho hd h1 h2⟩
/-- a(), within the def that got the lambda -/
theorem lam_act {CXg : CXT} {Eg : XK} {Ng : List Str} {qg : Str} {sg : Scope} {g f : Addr} {cdg : Value} {k i : Nat} {a : Str} {pn : List (Addr × Obj)} {xe : Value → Shared → Prop} {W : WX} {E : XK} {t : XK → TE} {p1 p2 : Pos} {fp : List Addr}
    (I : Inv X pins0 σ0 H0 s0) (un : Un (frs X.stack) fp H0 H s0.heap s.heap) (hfp : ∀ y c, X.env.cells.lookup y = some c → c ∉ fp)
    (tk : Takes ((cxOf CXg X.prog X.w X.K X.mg X.base Ng qg sg g cdg X.A X.stack s H Eg).tr pn xe) W) (hr : Room (k + 1) (X.A.deeper (envOfC qg sg s.heap.objs.size g cdg)))
    (hN : Ng[i]? = some a) (hv : Vis sg a) (hd : (a == ("__debug__" : Str)) = false := by decide) (hcd : (a == ("__classdict__" : Str)) = false := by decide) :
    PE ((cxOf CXg X.prog X.w X.K X.mg X.base Ng qg sg g cdg X.A X.stack s H Eg).tr pn xe) (.Call (.Name a p1) [] [] p2) (fun σZ HZ Q => σZ[i]? = some (some (.ref f)) ∧ IsLam X k t f HZ ∧ (∀ cls d H', E cls d H' → W cls d σZ H') ∧ t E σ0 HZ Q) := by
  refine ⟨fun pinsZ sZ σZ HZ Q IZ ⟨hs, hl, hW, ht⟩ => ?_⟩
  refine wpAny_Call_Name_kw (thn ((pe_var (pos := p1) hN hv hd hcd).run pinsZ sZ σZ HZ (fun v H1 => v = .ref f ∧ H1 = HZ) IZ ⟨.ref f, hs, rfl, rfl⟩) fun u s1 ⟨v, H1, I1, r1, ev, eH⟩ => ?_)
  subst ev
  rw [eH] at I1
  obtain rfl : u = Value.ref f := r1
  obtain ⟨params, body, scope, dV, bs, c', L, e1, e2, hb, hbody⟩ := hl
  obtain ⟨⟨doc, pm, ctv, of1⟩, _, _⟩ := I1.hok f _ e1
  obtain ⟨⟨oc, vs, tq, hoc, hdc, hvc⟩, _, _⟩ := I1.hok c' _ e2
  refine PySem.W.callWith_F0 ⟨_, _, _, _, of1⟩ ?_
  obtain ⟨bn, bin, bto⟩ := hb.binds (s := s1) (q := X.env.qual ++ "<lambda>") (cl := cloFrom X.env.cells scope.names []) (doc := doc) (pm := pm) (cv := .ref c') (ctv := ctv) fun T xs e => let ⟨its, rv, p, _⟩ := I1.tuple (SqT.of e); ⟨its, rv, p⟩
  have un1 : Un (frs X.stack) [] H HZ s.heap s1.heap := I1.base
  have rc : codeAny (model X.prog X.w) (X.A.deeper (envOfC qg sg s.heap.objs.size g cdg)) (.call (.ref f) ⟨[], []⟩) (CR (L2.CX X.prog X.w) (envOfC qg sg s.heap.objs.size g cdg :: X.stack) X.prog X.w HZ s1 Q E) s1 := by
    refine PySem.W.kla_callFunE hr.depth of1 rfl L.co L.gen rfl ⟨c', oc, vs, tq, rfl, hoc, hdc, hvc⟩ (bto _ _ _ _ ?_)
    refine wpAny_newFunctionEnv (fun y hy => (L.own y hy).1) (fun y hy => L.par _ (bin y hy)) (fun h₁ hns hsb => ⟨I1.nolimit.fresh _ hsb, ?_⟩) L.kind
    have kp : ∀ b o, s1.heap.get? b = some o → h₁.get? b = some o := fun b o e => hsb.extBut b o (Nat.ne_of_lt (Heap.lt_size e)) (Heap.get?_push_of_some _ e)
    have J : Inv (lamCx X (X.A.deeper (envOfC qg sg s.heap.objs.size g cdg)) (envOfC qg sg s.heap.objs.size g cdg :: X.stack) s1 HZ E scope f c') [] σ0 HZ { s1 with heap := h₁, toks := s1.toks + bn.length } :=
      lam_enter I L I1.env0 hr.hd (fun y c e ob ho n => by
        obtain ⟨sl, q⟩ := un.any ho n (hfp y c e)
        have n1 := un.free c ob ho n (hfp y c e)
        obtain ⟨sl2, q2⟩ := un1.any q n1 (by simp)
        exact ⟨⟨sl2, q2⟩, un1.free c _ q n1 (by simp)⟩) hns kp
    refine PySem.W.kla_codeExpr (wpAny_mono ((hbody _ _ s1 HZ E (hr.deeper _)).run [] _ _ HZ Q J ht) (fun v s' ⟨w', H', J', rv, q⟩ => ?_) fun e s' hq => hq)
    exact ⟨w', H', J'.os, J'.bare, J'.base, J'.hok, rv, q⟩
  refine wpAny_call (codeAny_mono rc fun r s' hq => ?_)
  match r, hq with
  | .error e, hq => exact tk e s' (XE.of_call I1 hW hq)
  | .ok (.ret u), hq => exact I1.after hq
  | .ok .next, hq => exact hq.elim
  | .ok .brk, hq => exact hq.elim
  | .ok .cont, hq => exact hq.elim
/-- the def that gets the lambda is run -/
theorem giv_run {x a : Str} {g f : Addr} {st : Stmt} {fd : FuncData} {N : List Str} {k : Nat} {t : XK → TE} {TT : (XK → Hp → VK → Prop) → Hp → VK → Prop} {Q : VK} {fp : List Addr} (I : Inv X pins0 σ0 H0 s0) (un : Un (frs X.stack) fp H0 H s0.heap s.heap) (hfp : ∀ y c, X.env.cells.lookup y = some c → c ∉ fp)
    (F : Fun X.K x x st g fd) (b : Binds X.K fd [a] []) (S : FnScope N [a] (defScope st)) (hN : N[0]? = some a) (hva : Vis (defScope st) a) (hG : ∀ g cdg, Gives X N x (defScope st) g cdg (defBody st) a TT) (hr : Room (k + 2) X.A) (e0 : Env0 X.prog X.w X.K X.mg X.base X.A X.stack s H)
    (hl : IsLam X k t f H) (h : TT (fun E H' Q' => t E σ0 H' Q') H Q) (hd : (a == ("__debug__" : Str)) = false := by decide) (hcd : (a == ("__classdict__" : Str)) = false := by decide) :
    codeAny (model X.prog X.w) X.A (.call (.ref g) ⟨[.ref f], []⟩) (CR CX0 X.stack X.prog X.w H s Q E0) s := by
  obtain ⟨oc, od, kV, doc, pm, an, cdv, ct, osl, rfl, lk, hcd'⟩ := F.ex
  have kin : X.K.In s.heap := e0.mod.kin.keeps fun b o e => (e0.bs b o e).1
  refine run_ofS (N := N) (ps := [a]) (us := [.ref f]) (vs := [.ref f]) lk hcd' S hr e0 (by have := b s [.ref f] kin rfl; simpa using this) (.cons rfl .nil) rfl fun hr' => ?_
  obtain ⟨t', ht', hq'⟩ := hG g cdv f s H Q (fun E H' Q' => t E σ0 H' Q') (fun HZ => IsLam X k t f HZ) (hr'.mono (by omega)) (fun W pn xe E p1 p2 tk => lam_act (i := 0) I un hfp tk hr' hN hva hd hcd) hl h
  exact ⟨t', ht'.nox, hq'⟩
end
/-- x(e), e a lambda of this def: σ0, the slots that the lambda sees, are the def's own -/
def tGiv (X : Cx) (k : Nat) (TT : (XK → Hp → VK → Prop) → Hp → VK → Prop) (te : TE) : TE := fun σ H Q => te σ H fun v H1 => ∃ f t, v = .ref f ∧ IsLam X k t f H1 ∧ TT (fun E H' Q' => t E σ H' Q') H1 Q
section
variable {X : Cx} {x a : Str} {st : Stmt} {N : List Str} {k : Nat} {TT : (XK → Hp → VK → Prop) → Hp → VK → Prop} {e : Expr} {te : TE} {p pos : Pos}
theorem pe_giv (D : DefG X.K X.mg x st [a]) (S : FnScope N [a] (defScope st)) (hG : ∀ g cdg, Gives X N x (defScope st) g cdg (defBody st) a TT) (hr : Room (k + 2) X.A) (he : PE X e te) (hN : N[0]? = some a := by rfl) (hva : Vis (defScope st) a := by first | exact Or.inl rfl | exact Or.inr (Or.inl rfl))
    (hg : Gl X x := by rfl) (hdb : (x == ("__debug__" : Str)) = false := by decide) (hd : (a == ("__debug__" : Str)) = false := by decide) (hcd : (a == ("__classdict__" : Str)) = false := by decide)
    (hst : starEach [e] X.env = (false, eval e X.env) :: starEach [] X.env := by rfl) : PE X (.Call (.Name x p) [e] [] pos) (tGiv X k TT te) := by
  obtain ⟨g, fd, F, hm, b⟩ := D
  refine ⟨fun pins s σ H Q I h => wpAny_Call_Name_kw (ld_glob I hg hm ?_ hdb)⟩
  have ha : PA X [e] (tCons te tNil) := pa_cons he pa_nil hst
  refine PySem.W.callWith_K (h₀ := X.base) I.ok.mod.kin F.kp (thn (ha.run pos pins s σ H (fun vs H1 => match vs with | [v] => ∃ f t, v = .ref f ∧ IsLam X k t f H1 ∧ TT (fun E H' Q' => t E σ H' Q') H1 Q | _ => False) I h) fun us s1 ⟨vs, H1, I1, r, q0⟩ => ⟨I1.kIn, ?_⟩) hst (by rfl)
  match vs, q0, r with
  | [v], ⟨f, t, ef, hl, q⟩, r =>
    subst ef
    obtain ⟨u, rfl, ru⟩ := r.one
    obtain rfl : u = Value.ref f := ru
    refine wpAny_call (codeAny_mono (giv_run I1 (fp := []) Un.refl (fun _ _ _ => by simp) F b S hN hva hG hr I1.env0 hl q hd hcd) fun r s2 hq => ?_)
    match r, hq with
    | .error e, hq => exact (show False from hq).elim
    | .ok (.ret u), hq => exact I1.after hq
    | .ok .next, hq => exact hq.elim
    | .ok .brk, hq => exact hq.elim
    | .ok .cont, hq => exact hq.elim
end
end L2.Px
set_option Elab.async false
set_option linter.all false
set_option maxRecDepth 100000
set_option maxHeartbeats 2000000
namespace L2.Px
open PySem PySem.Spec PyProof.Rows StX LamX
end L2.Px
set_option Elab.async false
set_option linter.all false
set_option maxRecDepth 100000
set_option maxHeartbeats 2000000
namespace L2.Px
open PySem PySem.Spec PyProof.Rows StX ClX
section
variable {P : Program} {w : World} {K : PySem.W.Frag} {mg : Str → Option Value} {base : Heap} {CX : CXT} {k : Nat} {C : Addr} {ps : List Str} {sp sp' : Sp} {x m qual : Str} {st : Stmt} {f : Addr} {R : Addr → Prop}
theorem DefG.okX {N : List Str} (D : DefG K mg x st ps) (S : FnScope N ps (defScope st)) (len : ∀ vs H Q E, sp vs H Q E → vs.length = ps.length)
    (hbody : ∀ (f : Addr) (cdv : Value) (A : Around) (outer : List Env) (s : Shared) (H : Hp) (vs : List V) (Q : VK) (E : XK), Room k (A.deeper (envOfC x (defScope st) s.heap.objs.size f cdv)) → sp vs H Q E →
      ∃ t, PSs (cxOf (L2.CX P w) P w K mg base N x (defScope st) f cdv A outer s H E) (defBody st) t ∧ t { nx := fun _ H' => Q .non H', rt := Q } (start N vs) H) : GOk P w K mg base (L2.CX P w) (k + 1) x sp := by
  obtain ⟨f, fd, F, a, b⟩ := D
  exact ⟨f, FnOk.toR (F.okX S len fun cdv A outer s H vs Q E hr h => hbody f cdv A outer s H vs Q E hr h) b, a, F.kp⟩
theorem DefM.okX {N : List Str} (D : DefM K C m qual st ps) (S : FnScope N ps (defScope st)) (len : ∀ vs H Q E, sp vs H Q E → vs.length = ps.length)
    (hbody : ∀ (f : Addr) (cdv : Value) (A : Around) (outer : List Env) (s : Shared) (H : Hp) (vs : List V) (Q : VK) (E : XK), Room k (A.deeper (envOfC qual (defScope st) s.heap.objs.size f cdv)) → sp vs H Q E →
      ∃ t, PSs (cxOf (L2.CX P w) P w K mg base N qual (defScope st) f cdv A outer s H E) (defBody st) t ∧ t { nx := fun _ H' => Q .non H', rt := Q } (start N vs) H) : MOk P w K mg base (L2.CX P w) (k + 1) C m sp := by
  obtain ⟨f, fd, F, a, b⟩ := D
  exact ⟨f, FnOk.toR (F.okX S len fun cdv A outer s H vs Q E hr h => hbody f cdv A outer s H vs Q E hr h) b, a⟩
theorem DefX.okX {N : List Str} (D : DefX K R m qual st ps) (S : FnScope N ps (defScope st)) (len : ∀ vs H Q E, sp vs H Q E → vs.length = ps.length)
    (hbody : ∀ (f : Addr) (cdv : Value) (A : Around) (outer : List Env) (s : Shared) (H : Hp) (vs : List V) (Q : VK) (E : XK), Room k (A.deeper (envOfC qual (defScope st) s.heap.objs.size f cdv)) → sp vs H Q E →
      ∃ t, PSs (cxOf (L2.CX P w) P w K mg base N qual (defScope st) f cdv A outer s H E) (defBody st) t ∧ t { nx := fun _ H' => Q .non H', rt := Q } (start N vs) H) : XOk P w K mg base (L2.CX P w) (k + 1) R sp := by
  obtain ⟨f, fd, F, r, b⟩ := D
  exact ⟨f, FnOk.toR (F.okX S len fun cdv A outer s H vs Q E hr h => hbody f cdv A outer s H vs Q E hr h) b, r⟩
theorem DefC.okX {N : List Str} (D : DefC K C m qual st ps) (S : FnScope N ps (defScope st)) (len : ∀ vs H Q E, sp vs H Q E → vs.length = ps.length)
    (hbody : ∀ (f : Addr) (cdv : Value) (A : Around) (outer : List Env) (s : Shared) (H : Hp) (vs : List V) (Q : VK) (E : XK), Room k (A.deeper (envOfC qual (defScope st) s.heap.objs.size f cdv)) → sp vs H Q E →
      ∃ t, PSs (cxOf (L2.CX P w) P w K mg base N qual (defScope st) f cdv A outer s H E) (defBody st) t ∧ t { nx := fun _ H' => Q .non H', rt := Q } (start N vs) H) : COk P w K mg base (L2.CX P w) (k + 1) C m sp := by
  obtain ⟨mc, p, g, fd, F, r, c, b⟩ := D
  exact ⟨mc, p, g, FnOk.toR (F.okX S len fun cdv A outer s H vs Q E hr h => hbody g cdv A outer s H vs Q E hr h) b, r, c⟩
theorem DefK.okX {N : List Str} (D : DefK K C qual st ps) (S : FnScope N ps (defScope st)) (len : ∀ vs H Q E, sp vs H Q E → vs.length = ps.length)
    (hbody : ∀ (f : Addr) (cdv : Value) (A : Around) (outer : List Env) (s : Shared) (H : Hp) (vs : List V) (Q : VK) (E : XK), Room k (A.deeper (envOfC qual (defScope st) s.heap.objs.size f cdv)) → sp vs H Q E →
      ∃ t, PSs (cxOf (L2.CX P w) P w K mg base N qual (defScope st) f cdv A outer s H E) (defBody st) t ∧ t { nx := fun _ H' => Q .non H', rt := Q } (start N vs) H) : KOk P w K mg base (L2.CX P w) (k + 1) C sp := by
  obtain ⟨f, fd, F, M, b⟩ := D
  exact ⟨f, FnOk.toR (F.okX S len fun cdv A outer s H vs Q E hr h => hbody f cdv A outer s H vs Q E hr h) b, M⟩
theorem DefKS.okX {N : List Str} {pv : Str} (D : DefKS K C qual st ps pv) (S : FnScope N (ps ++ [pv]) (defScope st))
    (hbody : ∀ (f : Addr) (cdv : Value) (A : Around) (outer : List Env) (s : Shared) (H : Hp) (vs : List V) (Q : VK) (E : XK), Room k (A.deeper (envOfC qual (defScope st) s.heap.objs.size f cdv)) → sp vs H Q E →
      ∃ t, PSs (cxOf (L2.CX P w) P w K mg base N qual (defScope st) f cdv A outer s H E) (defBody st) t ∧ t { nx := fun _ H' => Q .non H', rt := Q } (start N vs) H) : KOk P w K mg base (L2.CX P w) (k + 1) C (spStar ps.length sp) := by
  obtain ⟨f, fd, F, M, hb⟩ := D
  obtain ⟨oc, od, kV, doc, pm, an, cdv, ct, osl, rfl, lk, hcd⟩ := F.ex
  exact ⟨f, fn_star (sp := sp) lk hcd S cxUp hb fun A outer s H vs Q E hr h => hbody f cdv A outer s H vs Q E hr h, M⟩
theorem fnR_up (F : FnR P w K mg base CX0 k f sp) : FnR P w K mg base CX k f sp := fun A outer s H us vs Q E hr e0 r h =>
  codeAny_mono (F A outer s H us vs Q E hr e0 r h) fun r s' hq => match r, hq with
    | .error e, hq => hq.elim
    | .ok (.ret u), hq => hq
    | .ok .next, hq => hq
    | .ok .brk, hq => hq
    | .ok .cont, hq => hq
theorem fnR_or (F : FnR P w K mg base CX k f sp) (G : FnR P w K mg base CX k f sp') : FnR P w K mg base CX k f (fun vs H Q E => sp vs H Q E ∨ sp' vs H Q E) := fun A outer s H us vs Q E hr e0 r h =>
  h.elim (F A outer s H us vs Q E hr e0 r) (G A outer s H us vs Q E hr e0 r)
/-- a def that answers or raises -/
theorem GOk.or {i j : Nat} (F : GOk P w K mg base CX0 i x sp) (G : GOk P w K mg base CX j x sp') (hi : i ≤ k) (hj : j ≤ k) : GOk P w K mg base CX k x (fun vs H Q E => sp vs H Q E ∨ sp' vs H Q E) := by
  obtain ⟨f, a1, a2, a3⟩ := F.mono hi
  obtain ⟨g, b1, b2, b3⟩ := G.mono hj
  cases a2.symm.trans b2
  exact ⟨f, fnR_or (fnR_up a1) b1, a2, a3⟩
theorem MOk.or {i j : Nat} (F : MOk P w K mg base CX0 i C m sp) (G : MOk P w K mg base CX j C m sp') (hi : i ≤ k) (hj : j ≤ k) : MOk P w K mg base CX k C m (fun vs H Q E => sp vs H Q E ∨ sp' vs H Q E) := by
  obtain ⟨f, a1, a2⟩ := F.mono hi
  obtain ⟨g, b1, b2⟩ := G.mono hj
  have e := a2.at_.symm.trans b2.at_
  simp only [Option.some.injEq, Value.ref.injEq] at e
  subst e
  exact ⟨f, fnR_or (fnR_up a1) b1, a2⟩
end
section
variable {X : Cx} {E : XK}
/-- what leaves a callee leaves this def -/
theorem passX (tk : Takes X (fun cls d _ H => E cls d H)) : Passes (L2.CX X.prog X.w) X E := passes_call tk fun _ _ _ _ h => h
end
/-- one that is only named -/
structure XNm (K : PySem.W.Frag) (mg : Str → Option Value) (x : Str) (C : Addr) : Prop where
  g : mg x = some (.ref C)
/-- one without an __init__ of its own -/
structure XPl (K : PySem.W.Frag) (mg : Str → Option Value) (x : Str) (C : Addr) : Prop where
  g : mg x = some (.ref C)
  ex : PySem.W.excIn K C [.type "ValueError", .type "Exception", .type "BaseException", .type "object"] "ValueError.__new__" = true
  kp : PySem.W.keepIn K (.ref C) = true
  sub : PySem.W.subIn K (.ref C) (.type "BaseException") = some true
  ty : PySem.W.typeIn K (.ref C) = some (.type "type")
/-- one with an __init__ of its own, that stores the fields fs -/
structure XOw (K : PySem.W.Frag) (mg : Str → Option Value) (x : Str) (C : Addr) (fs : List Str) : Prop where
  g : mg x = some (.ref C)
  oex : OexC K C
  xf : XfC K C
  no : ∀ f ∈ fs, PySem.W.findIn K (.ref C) f = some none
/-- its __init__, as it stands; what it promises -/
def DefI (K : PySem.W.Frag) (C : Addr) (qual : Str) (st : Stmt) (ps : List Str) : Prop := ∃ f fd, Fun K "__init__" qual st f fd ∧ PySem.W.findIn K (.ref C) "__init__" = some (some (.ref f)) ∧ PySem.W.typeIn K (.ref f) = some (.type "function") ∧ Binds K fd ps []
def IOk (P : Program) (w : World) (K : PySem.W.Frag) (mg : Str → Option Value) (base : Heap) (k : Nat) (C : Addr) (ps : List Str) (sp : Sp) : Prop := ∃ f fd, FnOk P w K mg base CX0 k f fd ps sp ∧ PySem.W.findIn K (.ref C) "__init__" = some (some (.ref f)) ∧ PySem.W.typeIn K (.ref f) = some (.type "function") ∧ Binds K fd ps []
theorem DefI.ok {P : Program} {w : World} {K : PySem.W.Frag} {mg : Str → Option Value} {base : Heap} {k : Nat} {C : Addr} {qual : Str} {st : Stmt} {ps N : List Str} {sp : Sp} (D : DefI K C qual st ps) (S : FnScope N ps (defScope st)) (len : ∀ vs H Q E, sp vs H Q E → vs.length = ps.length)
    (hbody : ∀ (f : Addr) (cdv : Value) (A : Around) (outer : List Env) (s : Shared) (H : Hp) (vs : List V) (Q : VK) (E : XK), Room k (A.deeper (envOfC qual (defScope st) s.heap.objs.size f cdv)) → sp vs H Q E →
      ∃ t, PSs (cxOf CX0 P w K mg base N qual (defScope st) f cdv A outer s H E).nox (defBody st) t ∧ t { nx := fun _ H' => Q .non H', rt := Q } (start N vs) H) : IOk P w K mg base (k + 1) C ps sp := by
  obtain ⟨f, fd, F, i, t, b⟩ := D
  exact ⟨f, fd, F.ok S len fun cdv A outer s H vs Q E hr h => hbody f cdv A outer s H vs Q E hr h, i, t, b⟩
/-- TextError.__init__(self, ..): what an own base class hands on -/
structure XBs (K : PySem.W.Frag) (mg : Str → Option Value) (x : Str) (C : Addr) : Prop where
  g : mg x = some (.ref C)
  rd : PySem.W.readsIn K C (.type "type") = true
  ga : PySem.W.specialIn K (.ref C) "__getattribute__" = some (some (.builtin "type.__getattribute__"))
  at_ : PySem.W.findCls K (.ref C) (.type "type") "__init__" = some (.val (.builtin "ValueError.__init__"))
section
variable {X : Cx} {o e : Expr} {es : List Expr} {to te : TE} {ta : TA} {f x : Str} {p p' p1 p2 pos : Pos} {C : Addr}
theorem pe_xinit {pl : Sem Bool} (B : XBs X.K X.mg x C) (ha : PA X (e :: es) ta) (hg : Gl X x := by rfl) (hdb : (x == ("__debug__" : Str)) = false := by decide)
    (hc : eval (.Call (.Attribute (.Name x p1) "__init__" p2) (e :: es) [] pos) X.env = (do
      let ov ← eval (.Name x p1) X.env
      standAt p2.atName
      let (f, first) ← holding [ov] (getMethod ov "__init__" pl)
      callWith pos f first (backTo pos (starEach (e :: es) X.env)) (backToKw pos (keywordEach [] X.env))) := by rfl)
    (he : starEach (e :: es) X.env = (false, eval e X.env) :: starEach es X.env := by rfl) (hpl : (backTo pos (starEach es X.env)).any (·.1) = false := by rfl) :
    PE X (.Call (.Attribute (.Name x p1) "__init__" p2) (e :: es) [] pos) (tVeI X.K ta) := by
  refine ⟨fun pins s σ H Q I h => PySem.W.methodCall_KW (ld_glob I hg B.g ?_ hdb) hc⟩
  refine PySem.W.method_cls I.kIn B.ga (PySem.W.cls_value I.kIn B.rd B.at_ (by decide +kernel) ?_)
  refine PyProof.Rows.callWith_method1 (thn (ha.run pos pins _ σ H _ (I.tok _) h) fun us s1 ⟨vs, H1, I1, r1, a, C, ws, ev, hl, T, ea, q⟩ => ?_) he hpl
  subst ev
  cases r1 with
  | @cons _ u0 _ ur ra rw' =>
    obtain rfl : u0 = Value.ref a := ra
    exact oinit_ok T I1 ea (by rw [← Paired.length rw', sizeLine_eq]; omega) fun s' J => ⟨.non, H1, J, rfl, q⟩
end
section
variable {X : Cx} {K : PySem.W.Frag} {o e : Expr} {es : List Expr} {to te ta2 : TE} {ta : TA} {f x m : Str} {p p' p1 p2 pos : Pos} {C a : Addr} {σ : St} {H : Hp} {Q : VK} {ts : List TE} {acc : Str} {n : Nat} {RR : Str → Hp → Prop} {D : Ends}
theorem pe_xinitK {pl : Sem Bool} (hk : X.K = K) (B : XBs K X.mg x C) (ha : PA X (e :: es) ta) (hg : Gl X x := by rfl) (hdb : (x == ("__debug__" : Str)) = false := by decide)
    (hc : eval (.Call (.Attribute (.Name x p1) "__init__" p2) (e :: es) [] pos) X.env = (do
      let ov ← eval (.Name x p1) X.env
      standAt p2.atName
      let (f, first) ← holding [ov] (getMethod ov "__init__" pl)
      callWith pos f first (backTo pos (starEach (e :: es) X.env)) (backToKw pos (keywordEach [] X.env))) := by rfl)
    (he : starEach (e :: es) X.env = (false, eval e X.env) :: starEach es X.env := by rfl) (hpl : (backTo pos (starEach es X.env)).any (·.1) = false := by rfl) :
    PE X (.Call (.Attribute (.Name x p1) "__init__" p2) (e :: es) [] pos) (tVeI K ta) := by subst hk; exact pe_xinit (pl := pl) B ha hg hdb hc he hpl
theorem ps_ostK (hk : X.K = K) (ho : PE X o to) (he : PE X e te) (hs : swapsWith e (some (.Attribute o f p')) pos.line X.env = pure false := by rfl) : PS X (.Assign [.Attribute o f p'] e pos) (tOst K f to te) := by subst hk; exact ps_ost ho he hs
def rVeI (K : PySem.W.Frag) (vs : List V) (H1 : Hp) (Q : VK) : Prop := ∃ (a C : Addr) (ws : List V), vs = .ref a :: ws ∧ ws.length ≤ 1000 ∧ OexC K C ∧ H1 a = some (exo a C none) ∧ Q .non H1
theorem rd_veI (h : ta σ H fun vs H1 => rVeI K vs H1 Q) : tVeI K ta σ H Q := h
theorem rd_veI1 {v : V} (T : OexC K C) (e : H a = some (exo a C none)) (q : Q .non H) : rVeI K [.ref a, v] H Q := ⟨a, C, [v], rfl, by show 1 ≤ 1000; decide, T, e, q⟩
theorem nat_small {n : Nat} (h : n < 1000000000) : (n : Int).natAbs.log2 < 1920 := by
  rw [Int.natAbs_natCast]
  by_cases h0 : n = 0
  · subst h0; decide
  · have h2 : (2 : Nat) ^ 30 = 1073741824 := by decide
    have h3 : n.log2 < 30 := (Nat.log2_lt h0).mpr (by omega)
    omega
theorem nat_len {n : Nat} (h : n < 1000000000) : (Str.ofString (toString (n : Int))).length ≤ 9 := by
  have e : (10 : Int) ^ 9 = 1000000000 := by decide
  exact PyProof.Rows.toString_length_le (k := 9) (by omega) (by decide) (by rw [e]; omega)
/-- the end of a message: a small number -/
theorem rd_jnum {i : Nat} (hi : σ[i]? = some (some (.int (n : Nat)))) (hn : n < 1000000000) (ha : acc.length ≤ 1000) (k : ∀ y : Str, y.length ≤ 1009 → tJs ts y σ H RR) : tJs (tFmt (tVar i) :: ts) acc σ H RR := by
  refine ⟨_, hi, .inr ⟨_, rfl, nat_small hn, _, rfl, ?_, ?_⟩⟩
  · have := nat_len hn
    rw [str_len_app, sizeLine_eq]; omega
  · refine k _ ?_
    have := nat_len hn
    rw [str_len_app]; omega
theorem rd_jlit (ha : acc.length + x.length ≤ 1000) (k : tJs ts (acc ++ x) σ H RR) : tJs (tC (.str x) :: ts) acc σ H RR := ⟨x, rfl, by rw [str_len_app, sizeLine_eq]; omega, k⟩
theorem rd_jnil (k : RR acc H) : tJs [] acc σ H RR := k
def rOst (K : PySem.W.Frag) (f : Str) (D : Ends) (σ : St) (y x : V) (H2 : Hp) : Prop := ∃ a C : Addr, x = .ref a ∧ OexC K C ∧ PySem.W.findIn K (.ref C) f = some none ∧
  ((H2 a = some (exo a C none) ∧ ∀ dx, H2 dx = none → dx ≠ a → D.nx σ (upd (upd H2 dx (exd dx [(f, y)])) a (exo a C (some dx)))) ∨
    ∃ (dx : Addr) (fs : List (Str × V)), H2 a = some (exo a C (some dx)) ∧ H2 dx = some (exd dx fs) ∧ fs.length ≤ 900 ∧ D.nx σ (upd H2 dx (exd dx ((f, y) :: fs))))
theorem rd_ost (h : te σ H fun y H1 => to σ H1 fun x H2 => rOst K f D σ y x H2) : tOst K f to te D σ H := h
theorem rd_ost1 {v : V} (T : OexC K C) (no : PySem.W.findIn K (.ref C) f = some none) (e : H a = some (exo a C none)) (k : ∀ dx, H dx = none → dx ≠ a → D.nx σ (upd (upd H dx (exd dx [(f, v)])) a (exo a C (some dx)))) : rOst K f D σ v (.ref a) H := ⟨a, C, rfl, T, no, .inl ⟨e, k⟩⟩
end
section
variable {X : Cx} {E : XK} {C : Addr} {x m f g : Str} {j : Nat} {p p2 pos pos' : Pos} {e e' : Expr} {es : List Expr} {te te' : TE} {ta : TA} {sp : Sp} {k : Nat} {ps : List Str}
def tRz (C : Addr) (E : XK) : TS := fun _ _ H => E (.ref C) none H
theorem ps_rz (D : XPl X.K X.mg x C) (tk : Takes X (fun cls d _ H => E cls d H)) (hc : X.calm = true := by rfl) (hg : Gl X x := by rfl) (hdb : (x == ("__debug__" : Str)) = false := by decide) : PS X (.Raise (some (.Call (.Name x p) [.Constant (.str m) j p2] [] pos)) none pos') (tRz C E) :=
  ps_raise hc tk (pmk_own PySem.F.excBase_ValueError D.ex D.g D.kp (raises_own D.sub D.ty) hg hdb)
/-- an own exception is made of vs, its __init__ keeping sp -/
def rMkO (C : Addr) (sp : Sp) (E : XK) (vs : List V) (H1 : Hp) : Prop := vs.length ≤ 1000 ∧ ∀ a, H1 a = none → sp (.ref a :: (vs ++ [])) (upd H1 a (exo a C none))
  (fun v H2 => v = .non ∧ ∃ (d : Addr) (fs : List (Str × V)), H2 a = some (exo a C (some d)) ∧ H2 d = some (exd d fs) ∧ H1 d = none ∧ E (.ref C) (some d) (upd (del H2 a) d (.xd fs))) (fun _ _ _ => False)
def tRzI (C : Addr) (sp : Sp) (ta : TA) (E : XK) : TS := fun _ σ H => ta σ H fun vs H1 => rMkO C sp E vs H1
theorem ps_rzI {fs : List Str} (D : XOw X.K X.mg x C fs) (G : IOk X.prog X.w X.K X.mg X.base k C ps sp) (hr : Room (k + 1) X.A) (tk : Takes X (fun cls d _ H => E cls d H)) (ha : PA X (e :: es) ta) (hc : X.calm = true := by rfl) (hg : Gl X x := by rfl) (hdb : (x == ("__debug__" : Str)) = false := by decide)
    (he : starEach (e :: es) X.env = (false, eval e X.env) :: starEach es X.env := by rfl) (hpl : (backTo pos (starEach es X.env)).any (·.1) = false := by rfl) : PS X (.Raise (some (.Call (.Name x p) (e :: es) [] pos)) none pos') (tRzI C sp ta E) := by
  obtain ⟨fI, fd, F, i, t, b⟩ := G
  exact ps_raise hc tk (pmk_oex D.oex i t F hr b .nil pass0 hg D.g ha hdb he hpl)
/-- the promise of an __init__ that stores one number -/
def sp_xi1 (C : Addr) (f : Str) : Sp := fun vs H Q _ => ∃ (a : Addr) (i : Nat), vs = [.ref a, .int (i : Nat)] ∧ i < 1000000000 ∧ H a = some (exo a C none) ∧ ∀ d, H d = none → d ≠ a → Q .non (upd (upd H d (exd d [(f, .int (i : Nat))])) a (exo a C (some d)))
variable {σ : St} {H : Hp} {D : Ends}
theorem rd_rz (h : E (.ref C) none H) : tRz C E D σ H := h
theorem rd_rzI (h : ta σ H fun vs H1 => rMkO C sp E vs H1) : tRzI C sp ta E D σ H := h
theorem del_upd {H : Hp} {a d : Addr} {o1 o2 o3 o4 : HO} (ha : H a = none) (hd : d ≠ a) : upd (del (upd (upd (upd H a o1) d o2) a o3) a) d o4 = upd H d o4 := by
  funext b
  by_cases h1 : b = d
  · subst h1; rw [upd_same, upd_same]
  · rw [upd_ne h1, upd_ne h1]
    by_cases h2 : b = a
    · subst h2; rw [del_same, ha]
    · rw [del_ne h2, upd_ne h2, upd_ne h1, upd_ne h2]
theorem rd_mk1 {i : Nat} (hi : i < 1000000000) (h : ∀ d, H d = none → E (.ref C) (some d) (upd H d (.xd [(f, .int (i : Nat))]))) : rMkO C (sp_xi1 C f) E [.int (i : Nat)] H := by
  refine ⟨by show 1 ≤ 1000; decide, fun a ha => ⟨a, i, rfl, hi, upd_same, fun d hd hn => ⟨rfl, d, [(f, .int (i : Nat))], upd_same, ?_, ?_, ?_⟩⟩⟩
  · rw [upd_ne hn, upd_same]
  · rw [upd_ne hn] at hd; exact hd
  · rw [del_upd ha hn]
    rw [upd_ne hn] at hd
    exact h d hd
end
section
/-- isinstance(e, c), e the exception at a of the class cls, its dict d -/
def rIsX (K : PySem.W.Frag) (cls : Value) (d : Option Addr) (a : Addr) : List V → Hp → VK → Prop := fun xs H Q => ∃ (D : Addr) (c : V) (cv : Value) (b : Bool), cls = .ref D ∧ ExcC K D ∧ (d = none ∨ ∃ dd fs, d = some dd ∧ H dd = some (.xd fs)) ∧ xs = [.ref a, c] ∧ (∀ u, RelV c u → u = cv) ∧ PySem.W.kitOne K (.ref D) cv = some b ∧ Q (.bl b) H
theorem call_isX {X : Cx} {K : PySem.W.Frag} {a : Addr} {cls : Value} {d : Option Addr} {oe : Obj} {pn : List (Addr × Obj)} (hK : X.K = K) (hz : Zc cls d oe) (hf : ∃ vs, oe.data = .fields vs) : CallR (X.suite a ((a, oe) :: pn)) (.builtin "isinstance") (rIsX K cls d a) := by
  subst hK
  intro pins s σ H xs us Q I r h
  obtain ⟨D, c, cv, b, rfl, C, hdd, rfl, hcv, e, q⟩ := h
  match r with
  | .cons rx (.cons rt .nil) =>
    cases rx
    obtain rfl := hcv _ rt
    obtain ⟨hget, _⟩ := I.pin (a, oe) (List.mem_append.mpr (.inl List.mem_cons_self))
    obtain ⟨vs, hv⟩ := hf
    obtain ⟨oc, od, oda, osl⟩ := oe
    obtain ⟨h1, h2⟩ := hz
    dsimp only at h1 h2 hv
    have cl : (PySem.W.clsIn X.K D).isSome = true := by obtain ⟨cd, hc, _⟩ := PySem.W.any_some C.hd; rw [hc]; rfl
    rcases hdd with rfl | ⟨dd, fs, rfl, hx⟩
    · subst h1 h2 hv
      have J : PySem.W.InstAt s.heap a _ D none := ⟨hget, rfl, rfl, trivial⟩
      exact PySem.W.kia_one (PySem.W.kitx_exc cl C.hg C.hk C.hs C.ha C.hn C.ht C.hm) I.kIn J e (fun z => nomatch z) fun tk => ⟨.bl b, H, I.kept (t' := tk) fun _ _ z => z, rfl, q⟩
    · subst h1 h2 hv
      obtain ⟨o', ho', _⟩ : ∃ o', s.heap.get? dd = some o' ∧ True := by
        obtain ⟨u, hu⟩ := objOk_get (I.hok dd _ hx)
        exact ⟨u, hu, trivial⟩
      have J : PySem.W.InstAt s.heap a _ D (some o') := ⟨hget, rfl, rfl, ho'⟩
      exact PySem.W.kia_one (PySem.W.kitx_exc cl C.hg C.hk C.hs C.ha C.hn C.ht C.hm) I.kIn J e (fun z => nomatch z) fun tk => ⟨.bl b, H, I.kept (t' := tk) fun _ _ z => z, rfl, q⟩
variable {K : PySem.W.Frag} {H : Hp} {Q : VK} {D C a : Addr} {d : Option Addr} {b : Bool}
theorem rd_isX (hc : ExcC K D) (hd : d = none ∨ ∃ dd fs, d = some dd ∧ H dd = some (.xd fs)) (e : PySem.W.kitOne K (.ref D) (.ref C) = some b) (q : Q (.bl b) H) : rIsX K (.ref D) d a [.ref a, .ref C] H Q := ⟨D, .ref C, .ref C, b, rfl, hc, hd, rfl, fun u r => r, e, q⟩
theorem rd_isXT {T : String} (hc : ExcC K D) (hd : d = none ∨ ∃ dd fs, d = some dd ∧ H dd = some (.xd fs)) (e : PySem.W.kitOne K (.ref D) (.type T) = some b) (q : Q (.bl b) H) : rIsX K (.ref D) d a [.ref a, .ty T] H Q := ⟨D, .ty T, .type T, b, rfl, hc, hd, rfl, fun u r => r, e, q⟩
/-- e.f -/
def tXf2 (K : PySem.W.Frag) (a : Addr) (cls : Value) (d : Option Addr) (f : Str) (te : TE) : TE := fun σ H Q => te σ H fun x H1 => x = .ref a ∧ ∃ C dd fs v, cls = .ref C ∧ XfC K C ∧ PySem.W.findIn K (.ref C) f = some none ∧ d = some dd ∧ H1 dd = some (.xd fs) ∧ fs.lookup f = some v ∧ Q v H1
theorem pe_xf2 {X : Cx} {K : PySem.W.Frag} {a : Addr} {oe : Obj} {cls : Value} {d : Option Addr} {pn : List (Addr × Obj)} {e : Expr} {te : TE} {pos : Pos} {n : Str} (hK : X.K = K) (hz : Zc cls d oe) (hf : ∃ vs, oe.data = .fields vs) (he : PE (X.suite a ((a, oe) :: pn)) e te)
    (hb : attributeBase e n X.env (eval e X.env) = eval e X.env := by rfl) : PE (X.suite a ((a, oe) :: pn)) (.Attribute e n pos) (tXf2 K a cls d n te) := by
  subst hK
  refine ⟨fun pins s σ H Q I h => ?_⟩
  refine attr_of hb (thn (he.run pins s σ H _ I h) fun u s1 ⟨x, H1, I1, rx, ex, C, dd, fs, v, ec, T, no, ed, hx, hl, q⟩ => ?_)
  subst ex ec ed
  obtain rfl : u = Value.ref a := rx
  obtain ⟨at_, _⟩ := I1.pin (a, oe) (List.mem_append.mpr (.inl List.mem_cons_self))
  obtain ⟨ws, hw⟩ := hf
  have ox : ObjOk X.prog X.w H1 s1.heap dd (.xd fs) := I1.hok dd _ hx
  obtain ⟨mA, ns, rel⟩ := ox
  obtain ⟨od, lo, li⟩ := lookIn_ns ns
  obtain ⟨u, eu, ru⟩ := RelO.some_of (v := v) (o := mA n) (by rw [← hl]; exact rel n)
  have J : PySem.W.InstAt s1.heap a oe C (some od) := ⟨at_, hz.1, by unfold PySem.W.notCls; rw [hw], by rw [hz.2]; exact lo⟩
  exact HandSPX.exc_get I1.kIn J T.ga T.gg T.exC (PySem.W.findObj_own T.hdC no rfl (by rw [li, eu])) (handed_of ru) ⟨v, H1, I1.tok _, ru, q⟩
end
end L2.Px
set_option Elab.async false
set_option linter.all false
set_option maxRecDepth 100000
set_option maxHeartbeats 2000000
namespace L2.Px
open PySem PySem.Spec PyProof.Rows StX ClX LamX
section
variable {K : PySem.W.Frag} {X : Cx} {H : Hp} {Q : VK} {l p : Addr}
/-- xs.count(b), xs a list of bools -/
def rCntB (K : PySem.W.Frag) : V → List V → Hp → VK → Prop := fun x xs H Q => ∃ (p : Addr) (L : List Bool) (c : Bool), x = .ref p ∧ xs = [.bl c] ∧ SqL K H p (L.map V.bl) ∧ Q (.int (L.count c : Nat)) H
theorem dp_bls : ∀ {L : List Bool}, DpAll K H (L.map V.bl) (L.map PyData.bool)
  | [] => .nil
  | b :: L => .cons (.bl b) dp_bls
theorem cnt_bls (c : Bool) : ∀ L : List Bool, countIn (.bool c) (L.map PyData.bool) = ((L.count c : Nat) : Int)
  | [] => rfl
  | b :: L => by
    rw [List.map_cons, countIn, cnt_bls c L, List.count_cons]
    cases b <;> cases c <;> simp [same] <;> omega
theorem mt_bcountK (hk : X.K = K) : MtR X "list.count" (rCntB K) := by
  subst hk
  intro pins s σ H x xs v us Q I rx rxs h
  obtain ⟨p, L, c, rfl, rfl, hs, q⟩ := h
  cases rx
  obtain ⟨u, rfl, rfl⟩ := rxs.one
  obtain ⟨its, rv, hl, _⟩ := I.list hs
  obtain ⟨as, ra⟩ := Dp.readsAll I _ _ _ (dp_bls (L := L)) rv
  refine count_list_bools (k := c) hl.isList ra (by simp [Shape.has]) ?_
  rw [cnt_bls]
  exact ⟨.int _, H, I.tok _, ⟨_, rfl⟩, q⟩
theorem rd_bcount {L : List Bool} {c : Bool} (h : SqL K H l (L.map V.bl)) (q : Q (.int (L.count c : Nat)) H) : rCntB K (.ref l) [.bl c] H Q := ⟨l, L, c, rfl, rfl, h, q⟩
end
/-- e is of the i-th kind of Cs -/
structure RzC (K : PySem.W.Frag) (CT : Addr) (Cs : List Addr) (i : Nat) (D : Addr) : Prop where
  isi : ExcC K D
  exm : PySem.W.exmOne K (.ref D) (.ref CT) = some true
  ve : PySem.W.kitOne K (.ref D) (.type "ValueError") = some true
  kit : ∀ (j : Nat) C, Cs[j]? = some C → PySem.W.kitOne K (.ref D) (.ref C) = some (decide (j = i))
/-- .. and tells a number in its field f -/
structure RzF (K : PySem.W.Frag) (D : Addr) (f : Str) : Prop where
  xf : XfC K D
  no : PySem.W.findIn K (.ref D) f = some none
def rzW : List Str := ["step", "changes", "long", "place", "key", "letter", "number"]
/-- what _law_raised answers of the exception of the class cls, its dict d -/
def RzAns (K : PySem.W.Frag) (CT : Addr) (Cs : List Addr) (cls : Value) (d : Option Addr) (H : Hp) (Q : VK) : Prop := ∃ (i : Nat) (D : Addr) (w : Str), cls = .ref D ∧ RzC K CT Cs i D ∧ rzW[i]? = some w ∧
  ((i < 2 ∧ RzF K D "index" ∧ ∃ (dd : Addr) (n : Int) (fs : List (Str × V)), d = some dd ∧ H dd = some (.xd fs) ∧ fs.lookup ("index" : Str) = some (.int n) ∧ ∀ p H', Same H H' → H' p = some (.tup [.str w, .int n]) → Q (.ref p) H') ∨
    (¬ i < 2 ∧ d = none ∧ ∀ p H', Same H H' → H' p = some (.tup [.str w]) → Q (.ref p) H'))
theorem RzAns.dict {K : PySem.W.Frag} {CT : Addr} {Cs : List Addr} {cls : Value} {d : Option Addr} {H : Hp} {Q : VK} (h : RzAns K CT Cs cls d H Q) : d = none ∨ ∃ dd fs, d = some dd ∧ H dd = some (.xd fs) := by
  obtain ⟨i, D, w, _, _, _, ⟨_, _, dd, n, fs, e, hx, _⟩ | ⟨_, e, _⟩⟩ := h
  · exact .inr ⟨dd, fs, e, hx⟩
  · exact .inl e
section
variable {K : PySem.W.Frag} {H : Hp} {Q : VK} {l : Addr}
theorem rd_addSame {xs ys : List V} {a b : Addr} (ha : H a = some (.lst xs)) (hb : H b = some (.lst ys)) (hz : xs.length + ys.length ≤ sizeLine) (q : ∀ p H', Same H H' → H p = none → H' p = some (.lst (xs ++ ys)) → Q (.ref p) H') : rAddA K (.ref a) (.ref b) H Q :=
  rd_add_lst ha hb hz fun p hp => q p _ (Same.new (Same.refl _) hp) hp upd_same
end
end L2.Px
set_option Elab.async false
set_option linter.all false
set_option maxRecDepth 100000
set_option maxHeartbeats 1000000
namespace L2.Px
open PySem PySem.Spec PyProof.Rows StX ClX LamX
/-- the tables of all defs of the top are empty -/
def AllTab (q : Program) (K : PySem.W.Frag) (mg : Str → Option Value) (h : Heap) : Prop := ∀ (x : Str) (f : Addr), ((recsOf q).any fun e => e.name == x) = true → mg x = some (.ref f) → OwnTab K f h
theorem walk_ofT {l : PySem.W.OpenLaw} {n k : Nat} {q : Program} {loose : List Str} {XP : (Str → Option Value) → Heap → Prop} {YP : World → Heap → Prop} {d : DefRec} {K : Params → PySem.W.Frag} {x : Str}
    (hn : l.most = some n) (hn2 : n ≤ sizeLine) (hdf : d.params.defaults = []) (hr : Room k callerA) (hY : ∀ (w : World) (h : Heap), YP w h → (K w.params).In h)
    (F : ∀ (w : World) (mg : Str → Option Value) (fa : Addr) (h : Heap), (K w.params).In h → h.Ns mainGlobals mg → XP mg h → mg d.name = some (.ref fa) → AllTab q (K w.params) mg h → LawAtS l w (K w.params) CX0 k n x mg fa h) :
    PySem.W.WalkO q loose XP YP l.row.toRowW d [] (fun f vs => PySem.call f vs) := by
  refine Att.attach_callB hn hdf fun w s0 s1 mg mb fa o pm cd doc a vs ns G Y ho hd hcd hmg hobj hints hlen hbits hg => ?_
  have KX := hY w _ Y
  have tabs : AllTab q (K w.params) mg s1.heap := fun y f hy hf c P o1 fd1 e dd ws sl k1 k2 k3 k4 k5 => by
    obtain ⟨dL, hm, hq⟩ := List.any_eq_true.mp hy
    obtain ⟨a', o', fd', c', P', h1, h2, h3, h4, h5, ⟨oc, vc, e1, _, e3, e4⟩, hP⟩ := G.T.tab dL hm
    rw [beq_iff_eq.mp hq, hf] at h1
    cases h1
    cases (KX _ _ k1).symm.trans h2
    cases k2.symm.trans h3
    cases k3.symm.trans h4
    cases (KX _ _ k4).symm.trans e1
    cases e3
    cases k5.symm.trans e4
    exact hP
  obtain ⟨fd, cs, sp, hT, nT, C, hb, hsp, hF⟩ := F w mg fa _ KX G.T.g G.X hmg tabs
  exact law_callTs KX G.T.g G.T.b G.T.builtins G.T.nolimit hg hT nT C G.T.bmain hobj hints (Nat.le_trans hlen hn2) hr hF hb (fun H hH hS => hsp H a ns hlen hbits hH hS) fun _ _ _ z => z
section
variable {K : PySem.W.Frag} {h : Heap} {mg : Str → Option Value} {x qual : Str} {st : Stmt} {ps : List Str} {f c P : Addr} {q : Program}
/-- the def object at f, its code object at c -/
def AtC (K : PySem.W.Frag) (x qual : Str) (st : Stmt) (c f : Addr) : Prop := ∃ (oc : Value) (od : Option Addr) (kV dc pm : Value) (an : Option Addr) (ct : Value) (sl : Array (Option Value)), K.lookup f = some ⟨oc, od, .func (PySem.W.fnOf x qual (defArgs st) (defBody st) (defScope st) .none kV dc pm an (.ref c) ct), sl⟩ ∧ PySem.W.codeIn K (.ref c) qual = true
theorem atC {oc : Value} {od : Option Addr} {kV dc pm : Value} {an : Option Addr} {ct : Value} {sl : Array (Option Value)} (l : K.lookup f = some ⟨oc, od, .func (PySem.W.fnOf x qual (defArgs st) (defBody st) (defScope st) .none kV dc pm an (.ref c) ct), sl⟩) (hc : PySem.W.codeIn K (.ref c) qual = true) : AtC K x qual st c f := ⟨oc, od, kV, dc, pm, an, ct, sl, l, hc⟩
theorem defGC_mk (X : K.In h) (G : h.Ns mainGlobals mg) (a : PySem.W.nsIn K mainGlobals x = some (some (.ref f))) (l : AtC K x x st c f) (k : PySem.W.keepIn K (.ref f) = true) (b : BF x x st ps) : DefGC K mg x st ps c := by
  obtain ⟨oc, od, kV, dc, pm, an, ct, sl, l, hc⟩ := l
  exact ⟨f, _, ⟨⟨oc, od, kV, dc, pm, an, ct, sl, rfl, l, hc⟩, k⟩, PySem.W.mg_of X G a, fun s us _ hl => .of_eq (by rw [List.append_nil] at *; exact b kV dc pm an (.ref c) ct us (by simpa using hl))⟩
/-- the code object at c has its table at P, outside K -/
structure TabC (K : PySem.W.Frag) (c P : Addr) : Prop where
  hd : PySem.W.codeHdIn K c P = true
  no : K.lookup P = none
  at_ : ∃ (e : Value) (dd : Option Addr) (vs : Array Value) (sl : Array (Option Value)), K.lookup c = some ⟨e, dd, .fields vs, sl⟩ ∧ vs[11]? = some (.ref P)
theorem tabC_mk {e : Value} {dd : Option Addr} {vs : Array Value} {sl : Array (Option Value)} (l : K.lookup c = some ⟨e, dd, .fields vs, sl⟩) (v : vs[11]? = some (.ref P)) (hd : PySem.W.codeHdIn K c P = true) (no : K.lookup P = none) : TabC K c P := ⟨hd, no, e, dd, vs, sl, l, v⟩
theorem TabC.empty (t : TabC K c P) (A : AllTab q K mg h) (D : DefGC K mg x st ps c) (hx : ((recsOf q).any fun e => e.name == x) = true) : h.get? P = some { cls := .none, data := .fields #[] } := by
  obtain ⟨f, fd, F, hm, _⟩ := D
  obtain ⟨oc, od, kV, doc, pm, an, ct, osl, rfl, lk, _⟩ := F.ex
  obtain ⟨e, dd, vs, sl, l, v⟩ := t.at_
  exact A x f hx hm c P _ _ e dd vs sl lk rfl rfl l v
end
end L2.Px
set_option Elab.async false
set_option linter.all false
set_option maxRecDepth 100000
set_option maxHeartbeats 1000000
namespace L2.Px
open PySem PySem.Spec PyProof.Rows StX TL
/-- how often k stands ahead of place p -/
def cn (ss : List Stp) (p k : Nat) : Nat := ((ks ss).take p).count k
/-- .. of all keys -/
def cnt (ss : List Stp) (p : Nat) : List Nat := (List.range (tyL ss).length).map (cn ss p)
theorem count_take_split (l : List Nat) (k : Nat) {a b : Nat} (h : a ≤ b) : (l.take b).count k = (l.take a).count k + ((l.drop a).take (b - a)).count k := by
  have e : l.take b = l.take a ++ (l.drop a).take (b - a) := by
    have := List.take_add (l := l) (i := a) (j := b - a)
    rw [show a + (b - a) = b by omega] at this
    exact this
  rw [e, List.count_append]
theorem cn_mono (ss : List Stp) (k : Nat) {a b : Nat} (h : a ≤ b) : cn ss a k ≤ cn ss b k := by
  unfold cn; rw [count_take_split _ _ h]; omega
theorem cn_succ {ss : List Stp} (ok : okFrom 0 ss) {p : Nat} (h : p < sz ss) (k : Nat) : cn ss (p + 1) k = cn ss p k + if kat ss p = k then 1 else 0 := by
  unfold cn
  rw [List.take_add_one, kat_some ok h, List.count_append]
  simp [List.count_cons, beq_iff_eq]
end L2.Px
set_option Elab.async false
set_option linter.all false
set_option maxRecDepth 100000
set_option maxHeartbeats 1000000
namespace L2.Px
open PySem PySem.Spec PyProof.Rows StX TL
end L2.Px
set_option Elab.async false
set_option linter.all false
set_option maxRecDepth 100000
set_option maxHeartbeats 1000000
namespace L2.Px
open PySem PySem.Spec PyProof.Rows StX TL
theorem nodup_len {α : Type} [DecidableEq α] : ∀ {l m : List α}, l.Nodup → (∀ x ∈ l, x ∈ m) → l.length ≤ m.length
  | [], m, _, _ => Nat.zero_le _
  | x :: l, m, h, hs => by
    obtain ⟨h1, h2⟩ := List.nodup_cons.mp h
    have hx := hs x List.mem_cons_self
    have := nodup_len (l := l) (m := m.erase x) h2 fun y hy => by
      have hne : y ≠ x := fun z => h1 (z ▸ hy)
      exact (List.mem_erase_of_ne hne).mpr (hs y (List.mem_cons_of_mem _ hy))
    rw [List.length_erase_of_mem hx] at this
    have := List.length_pos_of_mem hx
    simp only [List.length_cons]
    omega
def cs1 (ss : List Stp) (j : Nat) : List Nat := match ss[j]? with
  | some (.pa f l _) => [sz (ss.take j), f, l + 1]
  | _ => [sz (ss.take j)]
def consts (ss : List Stp) : List Nat := 0 :: (List.range ss.length).flatMap (cs1 ss)
def phi (ss : List Stp) (x : Nat) : Nat := match (List.range ss.length).find? (fun j => decide (sz (ss.take j) < x ∧ x ≤ sz (ss.take (j + 1)))) with
  | some j => (match ss[j]? with
    | some (.pa f l _) => f + (x - sz (ss.take j)) % (l - f + 1)
    | _ => 0)
  | none => 0
def itn (ss : List Stp) : Nat → Nat → Nat
  | 0, x => x
  | i + 1, x => phi ss (itn ss i x)
def Reach (ss : List Stp) (qs : List Nat) (x n : Nat) : Prop := ∃ c ∈ consts ss ++ qs, ∃ i, i + n ≤ 31 ∧ x = itn ss i c
def reachL (ss : List Stp) (qs : List Nat) : List Nat := (consts ss ++ qs).flatMap fun c => (List.range 32).map fun i => itn ss i c
theorem Reach.mem {ss : List Stp} {qs : List Nat} {x n : Nat} (h : Reach ss qs x n) : x ∈ reachL ss qs := by
  obtain ⟨c, hc, i, hi, rfl⟩ := h
  exact List.mem_flatMap.mpr ⟨c, hc, List.mem_map.mpr ⟨i, List.mem_range.mpr (by omega), rfl⟩⟩
def counterF (a d : Addr) : List (Str × V) := putF "known" (.ref d) (putF "text" (.ref a) [])
theorem counterF_no {a d : Addr} {x : Str} (h : x ≠ "known" ∧ x ≠ "text") : (counterF a d).lookup x = none := by
  unfold counterF; rw [lookup_putF, if_neg h.1, lookup_putF, if_neg h.2]; rfl
/-- what is remembered: for places, the counts ahead of them -/
structure Known (H : Hp) (d : Addr) (ss : List Stp) (qs : List Nat) (av : Addr → Prop) : Prop where
  ex : ∃ kvs : List (Key × V), H d = some (.dK kvs) ∧ (kvs.map (·.1)).Nodup ∧ (∃ v, valV kvs (Sum.inl 0 : Key) = some v) ∧
    ∀ kv ∈ kvs, ∃ (x : Nat) (l : Addr), kv = (Sum.inl (x : Int), V.ref l) ∧ x ∈ reachL ss qs ∧ H l = some (.lst (natV (cnt ss x))) ∧ ¬ av l
structure CtAt (K : PySem.W.Frag) (CT CP CC : Addr) (H : Hp) (c a d : Addr) (ss : List Stp) (qs : List Nat) (av : Addr → Prop) : Prop where
  ins : ∃ dx, H c = some (.ins CC dx (counterF a d))
  tx : TX K CT CP H a ss
  kn : Known H d ss qs av
  few : qs.length ≤ 10000
section
variable {K : PySem.W.Frag} {CT CP CC : Addr} {H H' : Hp} {Q : VK} {E : XK} {c a d l : Addr} {ss : List Stp} {qs : List Nat} {q x : Nat} {kvs : List (Key × V)} {av : Addr → Prop}
/-- all but the dict d -/
theorem but_txt {t : TxI} (e : But d H H') (hd : H d = some (.dK kvs)) (h : TextAt K CT CP H a t) : TextAt K CT CP H' a t := by
  have ne : ∀ {b o}, (∀ k, o ≠ HO.dK k) → H b = some o → H' b = some o := fun {b o} ho hb => e b o (fun z => by subst z; rw [hd] at hb; cases hb; exact ho _ rfl) hb
  have f : Free1 H d := ⟨fun xs z => (by rw [hd] at z; cases z), fun o u z => (by rw [hd] at z; cases z)⟩
  exact ⟨ne (fun k z => by cases z) h.ins, e.tup f h.made, e.steps f h.stp, ne (fun k z => by cases z) h.pls, PartsAt.but e (fun dx fs z => by rw [hd] at z; cases z) h.prt, h.ok, h.few⟩
theorem TX.but (h : TX K CT CP H a ss) (e : But d H H') (hd : H d = some (.dK kvs)) : TX K CT CP H' a ss := let ⟨t, T, q⟩ := h; ⟨t, but_txt e hd T, q⟩
theorem CtAt.mono (h : CtAt K CT CP CC H c a d ss qs av) (e : Same H H') : CtAt K CT CP CC H' c a d ss qs av := by
  obtain ⟨⟨dx, h1⟩, h2, ⟨kvs, k1, k2, k3, k4⟩, h4⟩ := h
  exact ⟨⟨dx, e _ _ h1⟩, h2.kp (Kp.same e), ⟨kvs, e _ _ k1, k2, k3, fun kv hkv => let ⟨x, l, a, b, c⟩ := k4 kv hkv; ⟨x, l, a, b, e _ _ c.1, c.2⟩⟩, h4⟩
theorem Known.get (h : Known H d ss qs av) (hd : H d = some (.dK kvs)) {v : V} (hv : valV kvs (Sum.inl (x : Int) : Key) = some v) : ∃ l, v = .ref l ∧ H l = some (.lst (natV (cnt ss x))) := by
  obtain ⟨kvs', k1, k2, k3, k4⟩ := h
  rw [hd] at k1; cases k1
  unfold valV at hv
  obtain ⟨kv, h1, rfl⟩ := Option.map_eq_some_iff.mp hv
  have h2 := List.find?_some h1
  obtain ⟨x', l, e1, _, e2, _⟩ := k4 kv (List.mem_of_find?_eq_some h1)
  have h3 : kv.1 = Sum.inl (x : Int) := of_decide_eq_true h2
  subst e1
  have : x' = x := by
    have : (x' : Int) = x := Sum.inl.inj h3
    omega
  subst this
  exact ⟨l, rfl, e2⟩
variable (K CT CP CC)
end
end L2.Px
set_option Elab.async false
set_option linter.all false
set_option maxRecDepth 100000
set_option maxHeartbeats 1000000
namespace L2.Px
open PySem PySem.Spec PyProof.Rows StX TL
section
variable {X : Cx} {K : PySem.W.Frag} {ta : TA} {e e2 : Expr} {p pos tpos : Pos} {elts : List Expr} {kk : Nat}
variable {σ : St} {H : Hp} {Rr : It → Hp → Prop} {a b : Addr} {xs ys : List V}
variable {td ty tv te : TE} {nx ct bk : St → Hp → Prop} {rt : VK} {tc : TE} {R : Bool → Hp → Prop} {Q : VK}
theorem rd_par3 {i j l : Nat} (h : ta σ H fun vs H1 => ∃ v w u, vs = [v, w, u] ∧ nx (((σ.set i (some v)).set j (some w)).set l (some u)) H1) : tPar3 i j l ta ⟨nx, rt, bk, ct⟩ σ H := h
end
section
variable {K : PySem.W.Frag} {CT CP CC : Addr} {H H' : Hp} {a c d x : Addr} {ss : List Stp} {qs : List Nat} {dx : Addr} {fs : List (Str × V)} {av : Addr → Prop}
theorem but_any {kvs : List (Key × V)} {b : Addr} {o : HO} (e : But d H H') (hd : H d = some (.dK kvs)) (h : H b = some o) (no : ∀ k, o ≠ .dK k) : H' b = some o := e _ _ (fun z => by subst z; rw [hd] at h; cases h; exact no _ rfl) h
theorem natV_snoc (L : List Nat) (m : Nat) : natV (L ++ [m]) = natV L ++ [V.int (m : Nat)] := by unfold natV; rw [List.map_append]; rfl
theorem CtAt.dk {qs : List Nat} (h : CtAt K CT CP CC H c a d ss qs av) : ∃ kvs, H d = some (.dK kvs) := let ⟨kvs, e, _⟩ := h.kn.ex; ⟨kvs, e⟩
/-- counters where all but the dict stands as it stood, and what is remembered avoids av -/
theorem CtAt.re {qs qs' : List Nat} {av' : Addr → Prop} (h : CtAt K CT CP CC H c a d ss qs av) (e : But d H H') (k : Known H' d ss qs' av') (hq : qs'.length ≤ 10000) : CtAt K CT CP CC H' c a d ss qs' av' := by
  obtain ⟨kvs, hd⟩ := h.dk
  obtain ⟨dx, hc⟩ := h.ins
  exact ⟨⟨dx, but_any e hd hc (fun k z => by cases z)⟩, h.tx.but e hd, k, hq⟩
/-- what is remembered does not stand at D -/
theorem Known.upd {qs : List Nat} {D : Addr} {o : HO} (k : Known H d ss qs av) (hD : av D) (hd : D ≠ d) : Known (upd H D o) d ss qs av := by
  obtain ⟨kvs, k1, k2, k3, k4⟩ := k
  refine ⟨kvs, by rw [upd_ne (Ne.symm hd)]; exact k1, k2, k3, fun kv hkv => ?_⟩
  obtain ⟨x, l, e1, e2, e3, e4⟩ := k4 kv hkv
  exact ⟨x, l, e1, e2, by rw [upd_ne (fun z => e4 (by rw [z]; exact hD))]; exact e3, e4⟩
/-- a new address is avoided -/
theorem Known.fresh {qs : List Nat} {D : Addr} (k : Known H d ss qs av) (hD : H D = none) : Known H d ss qs (fun b => b = D ∨ av b) := by
  obtain ⟨kvs, k1, k2, k3, k4⟩ := k
  refine ⟨kvs, k1, k2, k3, fun kv hkv => ?_⟩
  obtain ⟨x, l, e1, e2, e3, e4⟩ := k4 kv hkv
  exact ⟨x, l, e1, e2, e3, fun z => z.elim (fun z => by subst z; rw [hD] at e3; cases e3) e4⟩
end
end L2.Px
set_option Elab.async false
set_option linter.all false
set_option maxRecDepth 100000
set_option maxHeartbeats 1000000
namespace L2.Px
open PySem PySem.Spec PyProof.Rows StX TL
/-- how often one of the keys stands ahead of p -/
def tot (ss : List Stp) (keys : List Nat) (p : Nat) : Nat := (keys.map (cn ss p)).sum
theorem tot_mono (ss : List Stp) (keys : List Nat) {a b : Nat} (h : a ≤ b) : tot ss keys a ≤ tot ss keys b := by
  unfold tot
  induction keys with
  | nil => simp
  | cons k r ih => simp only [List.map_cons, List.sum_cons]; have := cn_mono ss k h; omega
/-- p is the place at which one of the keys stands for the time n -/
def IsNth (ss : List Stp) (keys : List Nat) (n p : Nat) : Prop := p < sz ss ∧ tot ss keys p ≤ n ∧ n < tot ss keys (p + 1)
section
variable {K : PySem.W.Frag} {CT CP CC : Addr} {H H' H1 : Hp} {Q : VK} {E : XK} {c a d l D : Addr} {ss : List Stp} {qs : List Nat} {av : Addr → Prop} {L : List Nat} {o : HO}
theorem natV_ints (L : List Nat) : natV L = (L.map fun m => ((m : Nat) : Int)).map V.int := by unfold natV; rw [List.map_map]; rfl
variable (K CT CP CC)
end
end L2.Px
set_option Elab.async false
set_option linter.all false
set_option maxRecDepth 100000
set_option maxHeartbeats 1000000
namespace L2.Px
open PySem PySem.Spec PyProof.Rows StX TL
section
variable {K : PySem.W.Frag} {CT CP CC : Addr} {H H' H1 : Hp} {Q : VK} {E : XK} {c a d l D : Addr} {ss : List Stp} {qs : List Nat} {av : Addr → Prop} {i lo hi : Int}
theorem CtAt.insM {m : Str} (h : CtAt K CT CP CC H c a d ss qs av) (hm : m ≠ "known" ∧ m ≠ "text" := by decide +kernel) : InsM H c CC m := let ⟨dx, e⟩ := h.ins; ⟨dx, _, e, counterF_no hm⟩
variable (K CT CP)
end
end L2.Px
set_option Elab.async false
set_option linter.all false
set_option maxRecDepth 100000
set_option maxHeartbeats 1000000
namespace PySem
open Sem (wp)
end PySem
namespace L2.Px
open PySem PySem.Spec PyProof.Rows StX TL
end L2.Px
set_option Elab.async false
set_option linter.all false
set_option maxRecDepth 100000
set_option maxHeartbeats 1000000
namespace L2.Px
open PySem PySem.Spec PyProof.Rows StX TL
/-- the generator def named x keeps the promise sp -/
def GenOk (P : Program) (w : World) (K : PySem.W.Frag) (mg : Str → Option Value) (base : Heap) (k : Nat) (x : Str) (sp : SpG) : Prop :=
  ∃ f fd ps, GFn P w K mg base k f fd ps sp ∧ mg x = some (.ref f) ∧ PySem.W.keepIn K (.ref f) = true ∧ Binds K fd ps []
def NoX : XK := fun _ _ _ => False
section
variable {P : Program} {w : World} {K : PySem.W.Frag} {mg : Str → Option Value} {base : Heap} {k : Nat} {ps : List Str} {sp : SpG} {x : Str} {st : Stmt}
theorem DefG.gen {N : List Str} (D : DefG K mg x st ps) (S : GScope N ps (defScope st)) (len : ∀ vs H Q E, sp vs H Q E → vs.length = ps.length)
    (hbody : ∀ (f : Addr) (cdv : Value) (A : Around) (outer : List Env) (s : Shared) (H : Hp) (vs : List V) (Q : List V → Hp → Prop) (E : XK) (pn : List (Addr × Obj)), Room k (A.deeper (envOfC x (defScope st) s.heap.objs.size f cdv)) → sp vs H Q E →
      ∃ t, GSs (gcxOf P w K mg base N x (defScope st) f cdv A outer s H E pn) (defBody st) t ∧ t { nx := fun ys _ H' => Q ys H', rt := fun ys v H' => v = .non ∧ Q ys H' } [] (start N vs) H) : GenOk P w K mg base (k + 1) x sp := by
  obtain ⟨f, fd, F, a, b⟩ := D
  have kp := F.kp
  obtain ⟨oc, od, kV, doc, pm, an, cdv, ct, osl, rfl, lk, hcd⟩ := F.ex
  exact ⟨f, _, ps, gfn_of lk hcd S len fun A outer s H vs Q E pn hr h => hbody f cdv A outer s H vs Q E pn hr h, a, kp, b⟩
end
/-- the places of k from f on, at most 100 -/
structure IsPl (ss : List Stp) (k f : Nat) (L : List Nat) : Prop where
  le : L.length ≤ 100
  nth : ∀ j, j < L.length → IsNth ss [k] (cn ss f k + j) (L[j]?.getD 0)
  all : L.length = 100 ∨ cn ss (sz ss) k ≤ cn ss f k + L.length
theorem tot_one (ss : List Stp) (k p : Nat) : tot ss [k] p = cn ss p k := by simp [tot]
end L2.Px
set_option Elab.async false
set_option linter.all false
set_option maxRecDepth 100000
set_option maxHeartbeats 1000000
namespace L2.Px
open PySem PySem.Spec PyProof.Rows StX TL
end L2.Px
set_option Elab.async false
set_option linter.all false
set_option maxRecDepth 100000
set_option maxHeartbeats 1000000
namespace L2.Px
open PySem PySem.Spec PyProof.Rows StX TL
end L2.Px
set_option Elab.async false
set_option linter.all false
set_option maxRecDepth 100000
set_option maxHeartbeats 1000000
namespace L2.Px
open PySem PySem.Spec PyProof.Rows StX TL
end L2.Px
set_option Elab.async false
set_option linter.all false
set_option maxRecDepth 100000
set_option maxHeartbeats 1000000
namespace L2.Px
open PySem PySem.Spec PyProof.Rows StX TL
section
variable {K : PySem.W.Frag} {CT CP : Addr} {H : Hp} {Q : VK} {E : XK} {r : Addr} {i : Int}
theorem rd_p9 (q : Q (.int 1000000000) H) : rI CPow (fun i j => V.int (i ^ j.toNat)) (.int 10) (.int 9) H Q := rd_I ⟨by decide, by decide, by decide⟩ (by rw [show (10 : Int) ^ (9 : Int).toNat = 1000000000 from by decide +kernel]; exact q)
theorem okLs.join {a b : List Stp} (h : okLs a) (g : okLs b) : okLs (joinS a b) := fun c hc => by
  rw [tyL_join] at hc
  exact (List.mem_append.mp hc).elim (h c) (g c)
end
end L2.Px
set_option Elab.async false
set_option linter.all false
set_option maxRecDepth 100000
set_option maxHeartbeats 1000000
namespace L2.Px
open PySem PySem.Spec PyProof.Rows StX TL
theorem sum_map_add (L : List Nat) (f g : Nat → Nat) : (L.map fun k => f k + g k).sum = (L.map f).sum + (L.map g).sum := by
  induction L with
  | nil => rfl
  | cons x L ih => simp only [List.map_cons, List.sum_cons, ih]; omega
theorem nth_unique {ss : List Stp} {keys : List Nat} {n p q : Nat} (h : IsNth ss keys n p) (g : IsNth ss keys n q) : p = q := by
  rcases Nat.lt_trichotomy p q with z | z | z
  · have := tot_mono ss keys (show p + 1 ≤ q from z)
    have := h.2.2; have := g.2.1; omega
  · exact z
  · have := tot_mono ss keys (show q + 1 ≤ p from z)
    have := g.2.2; have := h.2.1; omega
theorem tot_ind (keys : List Nat) (k : Nat) : (keys.map fun j => if k = j then 1 else 0).sum = keys.count k := by
  induction keys with
  | nil => rfl
  | cons x r ih => rw [List.map_cons, List.sum_cons, ih, List.count_cons]; simp only [beq_iff_eq]; by_cases z : k = x <;> simp [z, eq_comm, Nat.add_comm]
theorem tot_succ {ss : List Stp} (ok : okFrom 0 ss) (keys : List Nat) {p : Nat} (h : p < sz ss) : tot ss keys (p + 1) = tot ss keys p + keys.count (kat ss p) := by
  unfold tot
  rw [← tot_ind, ← sum_map_add]
  congr 1
  refine List.map_congr_left fun k _ => cn_succ ok h k
end L2.Px
set_option Elab.async false
set_option linter.all false
set_option maxRecDepth 100000
set_option maxHeartbeats 1000000
namespace L2.Px
open PySem PySem.Spec PyProof.Rows StX TL
section
variable {K : PySem.W.Frag} {CT CP CC : Addr} {H H' H1 : Hp} {Q : VK} {E : XK} {a l : Addr} {ss : List Stp} {i j : Int} {L M : List Nat}
theorem IsPl.head {k f : Nat} (ok : okFrom 0 ss) (h : IsPl ss k f L) (hf : f < sz ss) (hk : kat ss f = k) : L[0]?.getD 0 = f ∧ 0 < L.length := by
  have e := tot_succ ok [k] hf
  rw [tot_one, tot_one, hk] at e
  simp at e
  have := cn_mono ss k (show f + 1 ≤ sz ss from hf)
  have hl : 0 < L.length := by have := h.all; omega
  refine ⟨nth_unique (h.nth 0 hl) ⟨hf, ?_, ?_⟩, hl⟩
  · rw [tot_one]; exact Nat.le_refl _
  · rw [tot_one]; omega
variable (K CT CP)
end
end L2.Px
set_option Elab.async false
set_option linter.all false
set_option maxRecDepth 100000
set_option maxHeartbeats 4000000
namespace L2.Px
open PySem PySem.Spec PyProof.Rows
end L2.Px
namespace L2.Px
open PySem PySem.Spec PyProof.Rows
end L2.Px
set_option Elab.async false
set_option linter.all false
set_option maxRecDepth 100000
set_option maxHeartbeats 1000000
namespace L2.Px
open PySem PySem.Spec PyProof.Rows StX TL
section
variable {ss : List Stp} {f l t : Nat}
theorem app_ok (ok : okFrom 0 (ss ++ [.pa f l t])) : okFrom 0 ss ∧ f ≤ l ∧ l < sz ss ∧ 1 ≤ t := by
  rw [okFrom_append, Nat.zero_add] at ok
  obtain ⟨a, ⟨b, c, d, e⟩, _⟩ := ok
  exact ⟨a, b, c, d⟩
end
/-- a list of the steps ss -/
def LX (K : PySem.W.Frag) (H : Hp) (a : Addr) (ss : List Stp) : Prop := ∃ ms, H a = some (.lst ms) ∧ StepsAt K H ms ss
section
variable {K : PySem.W.Frag} {CT CP : Addr} {H H' : Hp} {Q : VK} {E : XK} {a b r p : Addr} {ss : List Stp} {L M : List Nat}
theorem LX.mono (h : LX K H a ss) (e : Same H H') : LX K H' a ss := let ⟨ms, q, s⟩ := h; ⟨ms, e _ _ q, s.mono e⟩
end
end L2.Px
namespace L2.Px
open PySem PySem.Spec PyProof.Rows StX TL
end L2.Px
namespace L2.Px
open PySem PySem.Spec PyProof.Rows StX TL
end L2.Px
namespace L2.Px
open PySem PySem.Spec PyProof.Rows StX TL
end L2.Px
namespace L2.Px
open PySem PySem.Spec PyProof.Rows StX TL
end L2.Px
set_option Elab.async false
set_option linter.all false
set_option maxRecDepth 100000
set_option maxHeartbeats 1000000
namespace L2.Px
open PySem PySem.Spec PyProof.Rows StX TL
end L2.Px
namespace L2.Px
open PySem PySem.Spec PyProof.Rows StX TL
end L2.Px
namespace L2.Px
open PySem PySem.Spec PyProof.Rows StX TL
end L2.Px
set_option Elab.async false
set_option linter.all false
set_option maxRecDepth 100000
set_option maxHeartbeats 1000000
namespace L2.Px
open PySem PySem.Spec PyProof.Rows StX TL
/-- a def of the top whose last parameters have the defaults dvs -/
def DefGF (K : PySem.W.Frag) (mg : Str → Option Value) (x : Str) (st : Stmt) (ps : List Str) (dvs : List V) : Prop :=
  ∃ f fd, L2.FunD K x x (defArgs st) (defBody st) (defScope st) dvs [] f fd ∧ mg x = some (.ref f) ∧ (∃ ds, Vals dvs ds ∧ Binds K fd ps ds) ∧ Binds K fd ps []
section
variable {P : Program} {w : World} {K : PySem.W.Frag} {mg : Str → Option Value} {base : Heap} {k : Nat} {x : Str} {st : Stmt} {ps : List Str} {sp : Sp} {dvs : List V} {h : Heap} {f : Addr}
theorem DefGF.run {N : List Str} (D : DefGF K mg x st ps dvs) (S : FnScope N ps (defScope st)) (len : ∀ vs H Q E, sp vs H Q E → vs.length = ps.length)
    (hbody : ∀ (f : Addr) (cdv : Value) (A : Around) (outer : List Env) (s : Shared) (H : Hp) (vs : List V) (Q : VK) (E : XK), Room k (A.deeper (envOfC x (defScope st) s.heap.objs.size f cdv)) → sp vs H Q E →
      ∃ t, PSs (cxOf CX0 P w K mg base N x (defScope st) f cdv A outer s H E).nox (defBody st) t ∧ t { nx := fun _ H' => Q .non H', rt := Q } (start N vs) H) :
    GOk P w K mg base CX0 (k + 1) x (fun vs => sp (vs ++ dvs)) ∧ GOk P w K mg base CX0 (k + 1) x sp := by
  obtain ⟨f, fd, F, a, ⟨ds, hd, b⟩, b0⟩ := D
  have R := F.ok (CX := CX0) (P := P) (w := w) (mg := mg) (base := base) S len fun cdv A outer s H vs Q E hr h => by
    obtain ⟨t, ht, q⟩ := hbody f cdv A outer s H vs Q E hr h
    exact ⟨t, ht.nox, q⟩
  exact ⟨⟨f, FnOk.toR1 R b hd, a, F.kp⟩, ⟨f, FnOk.toR R b0, a, F.kp⟩⟩
theorem DefGF.ok {N : List Str} (D : DefGF K mg x st ps dvs) (S : FnScope N ps (defScope st)) (len : ∀ vs H Q E, sp vs H Q E → vs.length = ps.length)
    (hbody : ∀ (f : Addr) (cdv : Value) (A : Around) (outer : List Env) (s : Shared) (H : Hp) (vs : List V) (Q : VK) (E : XK), Room k (A.deeper (envOfC x (defScope st) s.heap.objs.size f cdv)) → sp vs H Q E →
      ∃ t, PSs (cxOf CX0 P w K mg base N x (defScope st) f cdv A outer s H E).nox (defBody st) t ∧ t { nx := fun _ H' => Q .non H', rt := Q } (start N vs) H) :
    GOk P w K mg base CX0 (k + 1) x (fun vs => sp (vs ++ dvs)) := (D.run S len hbody).1
end
end L2.Px
set_option Elab.async false
set_option linter.all false
set_option maxRecDepth 100000
set_option maxHeartbeats 1000000
namespace L2.Px
open PySem PySem.Spec PyProof.Rows StX TL
/-- how many keys stand ahead of p -/
noncomputable def few (l : List Nat) (p : Nat) : Nat := open Classical in if h : ∃ m, ∀ x, x ∈ l.take p ↔ x < m then h.choose else 0
section
variable {J : It} {n : Nat} {it : Nat → V} {H1 : Hp} {tt : TT} {te : TE} {vs : List Nat} {σ : St} {D : Addr} {Qd : Hp → Prop} {j : Nat}
/-- [f x for x in ..], the elements change the heap: Ps i holds behind i turns -/
theorem lc_sti (Ps : Nat → Hp → Prop) (P : ∀ i H, Ps i H → Plain J n it H) (h0 : Ps 0 (upd H1 D (.lst []))) (hn : n ≤ sizeLine) (hj : ∀ v, wipe ((wipe σ vs).set j (some v)) vs = wipe σ vs) (f : Nat → V)
    (hput : ∀ i H ys zs, Ps i H → H D = some (.lst ys) → Ps i (upd H D (.lst zs)))
    (hs : ∀ i H ys (Q : VK), i < n → Ps i H → H D = some (.lst ys) → (∀ H', Ps (i + 1) H' → H' D = some (.lst ys) → Q (f i) H') → te ((wipe σ vs).set j (some (it i))) H Q)
    (hd : ∀ H, Ps n H → H D = some (.lst ((List.range n).map f)) → Qd H) : LcW J (gName j) tYes te vs σ H1 D Qd := by
  refine ⟨fun i m H => m = n - i ∧ i ≤ n ∧ Ps i H ∧ H D = some (.lst ((List.range i).map f)), ⟨_, rfl, Nat.zero_le _, h0, upd_same⟩, ?_⟩
  rintro i m H ⟨rfl, hi, S, eD⟩
  have PP := P i H S
  by_cases hlt : i < n
  · refine .inr ⟨PP.go i H (Same.refl _) hlt, fun H' => i + 1 ≤ n ∧ Ps (i + 1) H' ∧ H' D = some (.lst ((List.range (i + 1)).map f)), fun H' z => ⟨n - (i + 1), by omega, rfl, z⟩, fun x H' y => ?_⟩
    obtain ⟨e1, e2⟩ := PP.yld i H x H' (Same.refl _) hlt y
    subst e1 e2
    refine ⟨hj _, ?_⟩
    refine rd_yes (iteT ?_)
    refine hs i H' _ _ hlt S eD fun H2 S2 e2 => ⟨_, e2, by rw [List.length_map, List.length_range]; omega, hlt, hput _ _ _ _ S2 e2, ?_⟩
    rw [upd_same, List.range_succ, List.map_append]
    rfl
  · have e : i = n := by omega
    subst e
    exact .inl ⟨PP.stop H (Same.refl _), hd H S eD⟩
end
end L2.Px
set_option Elab.async false
set_option linter.all false
set_option maxRecDepth 100000
set_option maxHeartbeats 1000000
namespace L2.Px
open PySem PySem.Spec PyProof.Rows StX TL
theorem mul_one (a : List Stp) : mulS a 1 = a := if_pos (.inl rfl)
end L2.Px
namespace L2.Px
open PySem PySem.Spec PyProof.Rows StX TL
end L2.Px
namespace L2.Px
open PySem PySem.Spec PyProof.Rows StX TL
theorem cutV_to (xs : List V) (j : Nat) : cutV xs none (some (j : Nat)) = xs.take j := by
  unfold cutV
  rw [HT.sIx_none, HT.sIx_nat]
  simp only [List.drop_zero, Nat.sub_zero]
  rcases Nat.le_total j xs.length with h | h
  · rw [Nat.min_eq_left h]
  · rw [Nat.min_eq_right h, List.take_of_length_le (Nat.le_refl _), List.take_of_length_le h]
theorem natV_take (L : List Nat) (n : Nat) : (natV L).take n = natV (L.take n) := by unfold natV; rw [List.map_take]
theorem rd_slNto {K : PySem.W.Frag} {H : Hp} {Q : VK} {a : Addr} {L : List Nat} {j : Nat} (h : H a = some (.lst (natV L))) (q : ∀ p H', Same H H' → H' p = some (.lst (natV (L.take j))) → Q (.ref p) H') : rSlL K (.ref a) none (some (j : Nat)) H Q :=
  rd_slL (SqL.of h) fun p hp => q p _ (Same.new (Same.refl _) hp) (by rw [upd_same, cutV_to, natV_take])
end L2.Px
namespace L2.Px
open PySem PySem.Spec PyProof.Rows StX TL
end L2.Px
namespace L2.Px
open PySem PySem.Spec PyProof.Rows StX TL
end L2.Px
namespace L2.Px
open PySem PySem.Spec PyProof.Rows StX TL
end L2.Px
set_option Elab.async false
set_option linter.all false
set_option maxRecDepth 100000
set_option maxHeartbeats 1000000
namespace L2.Px
open PySem PySem.Spec PyProof.Rows StX TL
open Sem (wp)
end L2.Px
set_option Elab.async false
set_option linter.all false
set_option maxRecDepth 100000
set_option maxHeartbeats 1000000
namespace L2.Px
open PySem PySem.Spec PyProof.Rows StX TL
end L2.Px
set_option Elab.async false
set_option linter.all false
set_option maxRecDepth 100000
set_option maxHeartbeats 1000000
namespace L2.Px
open PySem PySem.Spec PyProof.Rows StX TL
/-- the list of pairs (key, letter) at l -/
def ChAt (K : PySem.W.Frag) (H : Hp) (l : Addr) (cs : List (Nat × Nat)) (n : Nat) : Prop :=
  ∃ xs : List V, H l = some (.lst xs) ∧ xs.length = cs.length ∧ ∀ (i : Nat) (c : Nat × Nat), cs[i]? = some c → c.1 < n ∧ 97 ≤ c.2 ∧ c.2 ≤ 122 ∧ ∃ T, xs[i]? = some (V.ref T) ∧ H T = some (.tup [.int (c.1 : Nat), .str ⟨#[c.2]⟩])
section
variable (K : PySem.W.Frag) (CT CP : Addr) {H H' : Hp} {a b l : Addr} {ss tt : List Stp} {cs : List (Nat × Nat)} {n : Nat} {Q : VK} {E : XK}
variable {K CT CP}
theorem ChAt.mono (h : ChAt K H l cs n) (S : Same H H') : ChAt K H' l cs n := by
  obtain ⟨xs, e, hl, hx⟩ := h
  exact ⟨xs, S _ _ e, hl, fun i c hc => let ⟨h1, h2, h3, T, h4, h5⟩ := hx i c hc; ⟨h1, h2, h3, T, h4, S _ _ h5⟩⟩
variable (K CT CP)
variable {K CT CP}
end
end L2.Px
set_option Elab.async false
set_option linter.all false
set_option maxRecDepth 100000
set_option maxHeartbeats 1000000
namespace L2.Px
open PySem PySem.Spec PyProof.Rows StX TL
section
variable {K : PySem.W.Frag} {J : It} {n j : Nat} {it : Nat → V} {te : TE} {vs : List Nat} {σ : St} {H H1 : Hp} {D r l : Addr} {Qd : Hp → Prop} {Q : VK} {ss : List Stp}
theorem LX.kp {a : Addr} {H' : Hp} (h : LX K H a ss) (e : Kp H H') : LX K H' a ss := let ⟨ms, q, s⟩ := h; ⟨ms, e _ _ (nr_refs s.refs) q, s.kp e⟩
end
end L2.Px
set_option Elab.async false
set_option linter.all false
set_option maxRecDepth 100000
set_option maxHeartbeats 1000000
namespace L2.Px
open PySem PySem.Spec PyProof.Rows StX TL
end L2.Px
set_option Elab.async false
set_option linter.all false
set_option maxRecDepth 100000
set_option maxHeartbeats 1000000
namespace L2.Px
open PySem PySem.Spec PyProof.Rows StX TL
end L2.Px
set_option Elab.async false
set_option linter.all false
set_option maxRecDepth 100000
set_option maxHeartbeats 1000000
namespace L2.Px
open PySem PySem.Spec PyProof.Rows StX TL
/-- f leads each key along the heads hs to its root -/
structure Rt (hs : List Nat) (f : Nat → Nat) : Prop where
  le : ∀ k, k < hs.length → hs[k]?.getD 0 ≤ k
  root : ∀ k, k < hs.length → hs[k]?.getD 0 = k → f k = k
  step : ∀ k, k < hs.length → f k = f (hs[k]?.getD 0)
def rootsF (f : Nat → Nat) (n : Nat) : List Nat := (List.range n).filter fun r => decide (f r = r)
def memF (f : Nat → Nat) (n r : Nat) : List Nat := (List.range n).filter fun k => decide (f k = r)
end L2.Px
set_option Elab.async false
set_option linter.all false
set_option maxRecDepth 100000
set_option maxHeartbeats 2000000
namespace L2.Px
open PySem PySem.Spec PyProof.Rows StX TL
end L2.Px
set_option Elab.async false
set_option linter.all false
set_option maxRecDepth 100000
set_option maxHeartbeats 2000000
namespace L2.Px
open PySem PySem.Spec PyProof.Rows StX TL
end L2.Px
set_option Elab.async false
set_option linter.all false
set_option maxRecDepth 100000
set_option maxHeartbeats 2000000
namespace L2.Px
open PySem PySem.Spec PyProof.Rows StX TL
def tieFs (x : Str) (h : Addr) : List (Str × V) := putF "heads" (.ref h) (putF "letters" (.str x) [])
theorem tieFs_no {x m : Str} {h : Addr} (z : m ≠ "heads" ∧ m ≠ "letters") : (tieFs x h).lookup m = none := by
  unfold tieFs; rw [lookup_putF, if_neg z.1, lookup_putF, if_neg z.2]; rfl
/-- the ties at t of the keys with letters L: f leads to the roots -/
structure TieA (CI : Addr) (H : Hp) (t dx h : Addr) (L hs : List Nat) (f : Nat → Nat) : Prop where
  ins : H t = some (.ins CI dx (tieFs (mkS L) h))
  lst : H h = some (.lst (natV hs))
  rt : Rt hs f
  len : hs.length = L.length
  ne : h ≠ t
section
variable {K : PySem.W.Frag} {CI CT CP : Addr} {H H' H1 : Hp} {t dx h l r p : Addr} {L hs hs' M A B : List Nat} {f f' : Nat → Nat} {Q : VK} {E : XK} {cs : List (List Nat)} {i j : Int} {ss tt : List Stp} {a b : Addr}
theorem TieA.mono (z : TieA CI H t dx h L hs f) (S : Same H H') : TieA CI H' t dx h L hs f := ⟨S _ _ z.ins, S _ _ z.lst, z.rt, z.len, z.ne⟩
theorem TieA.next (z : TieA CI H t dx h L hs f) (B : But h H H') (e : H' h = some (.lst (natV hs'))) (r : Rt hs' f') (n : hs'.length = hs.length) : TieA CI H' t dx h L hs' f' := ⟨B _ _ (Ne.symm z.ne) z.ins, e, r, by rw [n, z.len], z.ne⟩
theorem TieA.insM {m : Str} (z : TieA CI H t dx h L hs f) (hm : m ≠ "heads" ∧ m ≠ "letters" := by decide +kernel) : InsM H t CI m := ⟨dx, _, z.ins, tieFs_no hm⟩
/-- the list at l holds the lists cs -/
def ClsAt (H : Hp) (l : Addr) (cs : List (List Nat)) : Prop := ∃ as : List Addr, H l = some (.lst (as.map V.ref)) ∧ as.length = cs.length ∧ ∀ (i : Nat) c, cs[i]? = some c → ∃ a, as[i]? = some a ∧ H a = some (.lst (natV c))
theorem ClsAt.mono (z : ClsAt H l cs) (S : Same H H') : ClsAt H' l cs := let ⟨as, e, n, g⟩ := z; ⟨as, S _ _ e, n, fun i c hc => let ⟨a, x, y⟩ := g i c hc; ⟨a, x, S _ _ y⟩⟩
variable (K CI CT CP)
variable {K CI CT CP}
end
end L2.Px
set_option Elab.async false
set_option linter.all false
set_option maxRecDepth 100000
set_option maxHeartbeats 1000000
namespace L2.Px
open PySem PySem.Spec PyProof.Rows StX TL
def kvR (rs : List Nat) (cl : Nat → Addr) : List (Key × V) := rs.map fun (r : Nat) => ((Sum.inl (r : Int) : Key), V.ref (cl r))
/-- the first i keys are gathered in the dict at D; cl tells the lists -/
structure ClsW (f : Nat → Nat) (H H' : Hp) (D : Addr) (i : Nat) (cl : Nat → Addr) : Prop where
  same : Same H H'
  dict : H' D = some (.dK (kvR (rootsF f i) cl))
  cls : ∀ r ∈ rootsF f i, H (cl r) = none ∧ cl r ≠ D ∧ H' (cl r) = some (.lst (natV (memF f i r)))
  inj : ∀ r r', r ∈ rootsF f i → r' ∈ rootsF f i → cl r = cl r' → r = r'
section
variable {f : Nat → Nat} {H H' H1 : Hp} {D p : Addr} {i : Nat} {cl : Nat → Addr}
theorem ClsW.mono (w : ClsW f H H' D i cl) (S : Same H' H1) : ClsW f H H1 D i cl := ⟨w.same.trans S, S _ _ w.dict, fun r hr => let ⟨a, b, c⟩ := w.cls r hr; ⟨a, b, S _ _ c⟩, w.inj⟩
end
end L2.Px
set_option Elab.async false
set_option linter.all false
set_option maxRecDepth 100000
set_option maxHeartbeats 1000000
namespace L2.Px
open PySem PySem.Spec PyProof.Rows StX TL
section
variable {J : It} {n : Nat} {it : Nat → V} {H1 : Hp} {tt : TT} {te : TE} {vs : List Nat} {σ : St} {D : Addr} {Qd : Hp → Prop} {j : Nat}
/-- ys answers the numbers is, one by one -/
def Ans (Rl : Nat → V → Hp → Prop) (H : Hp) (is : List Nat) (ys : List V) : Prop := ys.length = is.length ∧ ∀ (k i : Nat), is[k]? = some i → ∃ y, ys[k]? = some y ∧ Rl i y H
theorem Ans.snoc {Rl : Nat → V → Hp → Prop} {H H' : Hp} {is : List Nat} {ys : List V} (a : Ans Rl H is ys) {i : Nat} {y : V} (m : ∀ i y, Rl i y H → Rl i y H') (r : Rl i y H') : Ans Rl H' (is ++ [i]) (ys ++ [y]) := by
  refine ⟨by simp [a.1], fun k x hk => ?_⟩
  by_cases h : k < is.length
  · rw [List.getElem?_append_left h] at hk
    obtain ⟨z, h1, h2⟩ := a.2 k x hk
    exact ⟨z, by rw [List.getElem?_append_left (by rw [a.1]; exact h)]; exact h1, m _ _ h2⟩
  · have hl : k < (is ++ [i]).length := (List.getElem?_eq_some_iff.mp hk).1
    have hk0 : k = is.length := by simp at hl; omega
    subst hk0
    rw [List.getElem?_append_right (Nat.le_refl _), Nat.sub_self] at hk
    cases hk
    exact ⟨y, by rw [List.getElem?_append_right (by rw [a.1]; exact Nat.le_refl _), a.1, Nat.sub_self]; rfl, r⟩
theorem Ans.mono {Rl : Nat → V → Hp → Prop} {H H' : Hp} {is : List Nat} {ys : List V} (a : Ans Rl H is ys) (m : ∀ i y, Rl i y H → Rl i y H') : Ans Rl H' is ys := ⟨a.1, fun k i hk => let ⟨y, h1, h2⟩ := a.2 k i hk; ⟨y, h1, m _ _ h2⟩⟩
end
theorem cutV_from (xs : List V) (j : Nat) : cutV xs (some (j : Nat)) none = xs.drop j := by
  unfold cutV
  rw [HT.sIx_nat, HT.sIx_none]
  by_cases h : j ≤ xs.length
  · rw [Nat.min_eq_left h, List.take_of_length_le (by rw [List.length_drop]; exact Nat.le_refl _)]
  · rw [Nat.min_eq_right (by omega), List.drop_of_length_le (Nat.le_refl _), List.drop_of_length_le (by omega)]
    simp
theorem natV_drop (L : List Nat) (n : Nat) : (natV L).drop n = natV (L.drop n) := by unfold natV; rw [List.map_drop]
theorem rd_slFrom {K : PySem.W.Frag} {H : Hp} {Q : VK} {a : Addr} {L : List Nat} {j : Nat} (h : H a = some (.lst (natV L))) (q : ∀ p H', Same H H' → H p = none → H' p = some (.lst (natV (L.drop j))) → Q (.ref p) H') : rSlL K (.ref a) (some (j : Nat)) none H Q :=
  ⟨a, _, rfl, SqL.of h, fun p hp => q p _ (Same.new (Same.refl _) hp) hp (by rw [upd_same, cutV_from, natV_drop])⟩
section
variable {K : PySem.W.Frag} {H H' : Hp} {l p F : Addr} {cs ds : List (Nat × Nat)} {n : Nat} {Q : VK}
theorem ChAt.but (h : ChAt K H l cs n) (B : But F H H') {xs : List V} (hF : H F = some (.lst xs)) (ne : l ≠ F) : ChAt K H' l cs n := by
  obtain ⟨xs, e, hl, hx⟩ := h
  exact ⟨xs, B _ _ ne e, hl, fun i c hc => let ⟨h1, h2, h3, T, h4, h5⟩ := hx i c hc; ⟨h1, h2, h3, T, h4, B _ _ (fun z => by subst z; rw [hF] at h5; cases h5) h5⟩⟩
/-- two lists of changes behind one another -/
theorem ChAt.app {xs ys : List V} (hx : H F = some (.lst xs)) (hy : H l = some (.lst ys)) (h : ChAt K H F cs n) (g : ChAt K H l ds n) : ChAt K (upd H F (.lst (xs ++ ys))) F (cs ++ ds) n := by
  obtain ⟨xs', e, h1, h2⟩ := h
  rw [hx] at e
  cases e
  obtain ⟨ys', e, g1, g2⟩ := g
  rw [hy] at e
  cases e
  have nt : ∀ {T : Addr} {zs : List V}, H T = some (.tup zs) → upd H F (.lst (xs ++ ys)) T = some (.tup zs) := fun {T zs} q => by
    rw [upd_ne fun z => by subst z; rw [hx] at q; cases q]; exact q
  refine ⟨_, upd_same, by simp [h1, g1], fun i c hc => ?_⟩
  by_cases hi : i < cs.length
  · rw [List.getElem?_append_left hi] at hc
    obtain ⟨a1, a2, a3, T, a4, a5⟩ := h2 i c hc
    exact ⟨a1, a2, a3, T, by rw [List.getElem?_append_left (by omega)]; exact a4, nt a5⟩
  · rw [List.getElem?_append_right (by omega)] at hc
    obtain ⟨a1, a2, a3, T, a4, a5⟩ := g2 _ c hc
    exact ⟨a1, a2, a3, T, by rw [List.getElem?_append_right (by omega), h1]; exact a4, nt a5⟩
end
end L2.Px
set_option Elab.async false
set_option linter.all false
set_option maxRecDepth 100000
set_option maxHeartbeats 2000000
namespace L2.Px
open PySem PySem.Spec PyProof.Rows StX TL
section
variable {K : PySem.W.Frag} {CI CT CP : Addr} {H H' H1 : Hp} {a b l r p : Addr} {L M : List Nat} {Q : VK} {E : XK} {cs ds : List (Nat × Nat)} {cl : List (List Nat)} {i j : Int} {ss tt : List Stp} {n c : Nat} {X : Cx}
theorem ClsAt.get (h : ClsAt H l cl) {i : Nat} {c : List Nat} (hc : cl[i]? = some c) : ∃ as : List Addr, H l = some (.lst (as.map V.ref)) := let ⟨as, e, _⟩ := h; ⟨as, e⟩
theorem ChAt.drop {xs : List V} (h : ChAt K H l cs n) (hx : H l = some (.lst xs)) (j : Nat) (e : H p = some (.lst (xs.drop j))) : ChAt K H p (cs.drop j) n := by
  obtain ⟨xs', ex, hl, hc⟩ := h
  rw [hx] at ex
  cases ex
  exact ⟨_, e, by rw [List.length_drop, List.length_drop, hl], fun i c hi => by rw [List.getElem?_drop] at hi ⊢; exact hc _ c hi⟩
variable (K CT CP)
variable {K CT CP}
end
end L2.Px
set_option Elab.async false
set_option linter.all false
set_option maxRecDepth 100000
set_option maxHeartbeats 2000000
namespace L2.Px
open PySem PySem.Spec PyProof.Rows StX TL
end L2.Px
set_option Elab.async false
set_option linter.all false
set_option maxRecDepth 100000
set_option maxHeartbeats 1000000
namespace L2.Px
open PySem PySem.Spec PyProof.Rows StX TL ClX
/-- v as a step of a text of n places: b whether it is one -/
def StVal (K : PySem.W.Frag) (H : Hp) (n : Int) (v : V) (b : Bool) : Prop := (NoSeq v ∧ b = false) ∨ ∃ a xs, v = .ref a ∧ (∀ x ∈ xs, NoSeq x ∧ ∀ z, x = .str z → z.length ≤ sizeLine) ∧ ((SqT K H a xs ∧ b = isSt n xs) ∨ (SqL K H a xs ∧ b = false))
/-- the values rs are no steps of a text -/
def Rej (K : PySem.W.Frag) (CIS CTL : Addr) (E : XK) (H : Hp) (rs : List V) : Prop := ∃ (ss : List Stp) (v : V), StepsAt K H (rs.take ss.length) ss ∧ okFrom 0 ss ∧ rs[ss.length]? = some v ∧ ss.length ≤ 30 ∧
  (((ss.length = 30 ∨ StVal K H (sz ss : Nat) v false) ∧ ∀ d H', Same H H' → H' d = some (.xd [("index", .int (ss.length : Nat))]) → E (.ref CIS) (some d) H') ∨
    ∃ s, StepAt K H v s ∧ okStep (sz ss) s ∧ ss.length < 30 ∧ 1000000000000000000 < sz ss + len1 s ∧ ∀ H', Same H H' → E (.ref CTL) none H')
section
variable {K : PySem.W.Frag} {CIS CTL CT CP : Addr} {E : XK} {H H' : Hp} {rs : List V} {v : V} {n : Int} {b : Bool} {Q : VK}
theorem StVal.mono (e : Same H H') (h : StVal K H n v b) : StVal K H' n v b := by
  rcases h with h | ⟨a, xs, ev, hx, h | h⟩
  · exact .inl h
  · exact .inr ⟨a, xs, ev, hx, .inl ⟨Same.tup e h.1, h.2⟩⟩
  · exact .inr ⟨a, xs, ev, hx, .inr ⟨e.seq h.1, h.2⟩⟩
theorem Rej.mono (e : Same H H') (h : Rej K CIS CTL E H rs) : Rej K CIS CTL E H' rs := by
  obtain ⟨ss, v, h1, h2, h3, h4, h5⟩ := h
  refine ⟨ss, v, h1.mono e, h2, h3, h4, ?_⟩
  rcases h5 with ⟨h5, h6⟩ | ⟨s, a1, a2, a3, a4, a5⟩
  · exact .inl ⟨h5.imp id (·.mono e), fun d H'' S hd => h6 d H'' (e.trans S) hd⟩
  · exact .inr ⟨s, a1.mono e, a2, a3, a4, fun H'' S => a5 H'' (e.trans S)⟩
end
theorem StepAt.val {K : PySem.W.Frag} {H : Hp} {v : V} {s : Stp} {n : Nat} (h : StepAt K H v s) (ok : okStep n s) : StVal K H (n : Nat) v true := by
  obtain ⟨a, rfl, hq⟩ := h
  refine .inr ⟨a, stV s, rfl, fun x hx => ⟨stV_noseq s x hx, fun z hz => ?_⟩, .inl ⟨hq, ?_⟩⟩
  · subst hz
    cases s with
    | wr w =>
      simp only [stV, List.mem_cons, List.not_mem_nil, or_false, V.str.injEq] at hx
      rcases hx with rfl | rfl
      · rw [sizeLine_eq]; decide
      · exact str_small ok.2.1
    | pa f l t =>
      simp only [stV, List.mem_cons, List.not_mem_nil, or_false, V.str.injEq, reduceCtorEq] at hx
      subst hx
      rw [sizeLine_eq]; decide
  · cases s with
    | wr w =>
      have e : isWd (.str w) = true := decide_eq_true (by rw [← len_tl]; exact ok)
      simp [stV, isSt, e]
    | pa f l t =>
      obtain ⟨o1, o2, o3, o4⟩ := ok
      have e1 : isInt 0 ((n : Int) - 1) (.int l) = true := decide_eq_true (by omega)
      have e2 : isInt 0 (l : Int) (.int f) = true := decide_eq_true (by omega)
      have e3 : isInt 1 1000000000 (.int t) = true := decide_eq_true (by omega)
      simp [stV, isSt, e1, e2, e3, intOf]
end L2.Px
set_option Elab.async false
set_option linter.all false
set_option maxRecDepth 100000
set_option maxHeartbeats 1000000
namespace L2.Px
open PySem PySem.Spec PyProof.Rows StX TL ClX LamX
def sp_lawL (K : PySem.W.Frag) (T : List (Addr × Str)) : Sp := fun vs H Q _ => ∃ (a : Addr) (sc : List Int), vs = [.ref a] ∧ SqL K H a (sc.map V.int) ∧ Tabs T H ∧ ∀ H', Q (.bl true) H'
section
variable {K : PySem.W.Frag} {CT CP : Addr} {H H' H1 : Hp} {Q : VK} {E : XK} {a b r p q : Addr} {ss tt : List Stp} {i j : Int} {v : V} {o : HO} {xs : List V} {L : List Nat} {T : List (Addr × Str)}
theorem Kl.at_ (e : Kl T H H') (n : ¬ isRow o) (m : ∀ ps, o ≠ .tbl ps) (h : H a = some o) : H' a = some o := e.keep a o n m h
theorem StepAt.kl {s : Stp} (h : StepAt K H v s) (e : Kl T H H') : StepAt K H' v s := let ⟨a, ev, q⟩ := h; ⟨a, ev, e.tup q⟩
theorem StepsAt.kl {ms : List V} (h : StepsAt K H ms ss) (e : Kl T H H') : StepsAt K H' ms ss := ⟨h.1, fun j s q => let ⟨v, a, b⟩ := h.2 j s q; ⟨v, a, b.kl e⟩⟩
theorem PartAt.kl {n y : Nat} {s : Stp} (h : PartAt CP H v n y s) (e : Kl T H H') : PartAt CP H' v n y s := by
  cases s with
  | wr w => obtain ⟨p, dx, ev, q⟩ := h; exact ⟨p, dx, ev, e.keep _ _ nr_ins (fun _ z => nomatch z) q⟩
  | pa f l t => obtain ⟨p, dx, ev, q⟩ := h; exact ⟨p, dx, ev, e.keep _ _ nr_ins (fun _ z => nomatch z) q⟩
theorem PartsAt.kl {ps : List V} (h : PartsAt CP H ps ss) (e : Kl T H H') : PartsAt CP H' ps ss := ⟨h.1, fun j s q => let ⟨v, a, b⟩ := h.2 j s q; ⟨v, a, b.kl e⟩⟩
theorem TextAt.kl {t : TxI} (h : TextAt K CT CP H a t) (e : Kl T H H') : TextAt K CT CP H' a t :=
  ⟨e.keep _ _ nr_ins (fun _ z => nomatch z) h.ins, e.tup h.made, h.stp.kl e, e.keep _ _ (nr_refs h.prt.refs) (fun _ z => nomatch z) h.pls, h.prt.kl e, h.ok, h.few⟩
theorem TX.kl (h : TX K CT CP H a ss) (e : Kl T H H') : TX K CT CP H' a ss := let ⟨t, x, y⟩ := h; ⟨t, x.kl e, y⟩
theorem TS'.kl (h : TS' K H a ss) (e : Kl T H H') : TS' K H' a ss := let ⟨ms, x, y⟩ := h; ⟨ms, e.tup x, y.kl e⟩
theorem SX.kl (h : SX K H a ss) (e : Kl T H H') : SX K H' a ss := let ⟨ms, x, y⟩ := h; ⟨ms, x.imp (e.tup ·) (e.keep _ _ (nr_refs y.refs) (fun _ z => nomatch z) ·), y.kl e⟩
theorem kl_natV {l : Addr} (h : H l = some (.lst (natV L))) (k : Kl T H H') : H' l = some (.lst (natV L)) := k.keep _ _ nr_natV (fun _ z => nomatch z) h
theorem kl_sgV {l : Addr} (h : H l = some (.lst (sgV L))) (k : Kl T H H') : H' l = some (.lst (sgV L)) := k.keep _ _ nr_sgV (fun _ z => nomatch z) h
/-- x(lambda: body): made and run -/
theorem rd_giv {X : Cx} {k : Nat} {TT : (XK → Hp → VK → Prop) → Hp → VK → Prop} {t : XK → TE} {σ : St} (hT : Tabs T H) (h : ∀ H1, Kx T H H1 → TT (fun E H' Q' => t E σ H' Q') H1 Q) : tGiv X k TT (tMkL T (IsLam X k t)) σ H Q :=
  ⟨hT, fun f H1 kl _ il => ⟨f, t, rfl, il, h H1 kl⟩⟩
variable {CIP CIK CIL CIN CTL CIS : Addr}
end
end L2.Px
set_option Elab.async false
set_option linter.all false
set_option maxRecDepth 100000
set_option maxHeartbeats 1000000
namespace L2.Px
open PySem PySem.Spec PyProof.Rows StX TL
section
variable (K : PySem.W.Frag)
def sp_x_law_dice : Sp := fun vs H Q _ => ∃ (a : Addr) (sc : List Int), vs = [.ref a] ∧ SqL K H a (sc.map V.int) ∧ ∀ r H', Same H H' → H r = none → RowAt K H' r → Q (.ref r) H'
def sp_x_law_next : Sp := fun vs H Q _ => ∃ (r : Addr) (many : Nat), vs = [.ref r, .int many] ∧ RowAt K H r ∧ 1 ≤ many ∧ many < 4611686018427387904 ∧ ∀ (n : Nat) H', n < many → Kp H H' → RowAt K H' r → Q (.int n) H'
def sp_x_law_pick : Sp := fun vs H Q _ => ∃ (r l : Addr) (xs : List V), vs = [.ref r, .ref l] ∧ RowAt K H r ∧ SqL K H l xs ∧ (SqL K H l xs → ∀ H', Kp H H' → SqL K H' l xs) ∧ 1 ≤ xs.length ∧ xs.length ≤ sizeLine ∧ ∀ (n : Nat) v H', xs[n]? = some v → Kp H H' → RowAt K H' r → Q v H'
def sp_x_law_wordD : Sp := fun vs H Q _ => ∃ (r : Addr), vs = [.ref r] ∧ RowAt K H r ∧ ∀ (w : Str) H', okWord w 4 → Kp H H' → RowAt K H' r → Q (.str w) H'
end
section
variable {K : PySem.W.Frag} {H H' H1 H2 : Hp} {Q : VK} {E : XK} {r l D : Addr} {i : Int} {xs : List V}
theorem rd_dice {a : Addr} {sc : List Int} (h : SqL K H a (sc.map V.int)) (q : ∀ r H', Same H H' → H r = none → RowAt K H' r → Q (.ref r) H') : sp_x_law_dice K [.ref a] H Q E := ⟨a, sc, rfl, h, q⟩
theorem rd_nextD (row : RowAt K H r) (h1 : 1 ≤ i) (h2 : i < 4611686018427387904) (q : ∀ (n : Nat) H', (n : Int) < i → Kp H H' → RowAt K H' r → Q (.int n) H') : sp_x_law_next K [.ref r, .int i] H Q E :=
  ⟨r, i.toNat, by rw [Int.toNat_of_nonneg (by omega)], row, by omega, by omega, fun n H' hn k w => q n H' (by omega) k w⟩
theorem rd_pick (row : RowAt K H r) (h : SqL K H l xs) (nr : ¬ isRow (.lst xs)) (h1 : 1 ≤ xs.length) (h2 : xs.length ≤ 1000) (q : ∀ (n : Nat) v H', xs[n]? = some v → Kp H H' → RowAt K H' r → Q v H') : sp_x_law_pick K [.ref r, .ref l] H Q E :=
  ⟨r, l, xs, rfl, row, h, fun h H' k => k.lst nr h, h1, by rw [sizeLine_eq]; omega, q⟩
theorem rd_wordD (row : RowAt K H r) (q : ∀ (w : Str) H', okWord w 4 → Kp H H' → RowAt K H' r → Q (.str w) H') : sp_x_law_wordD K [.ref r] H Q E := ⟨r, rfl, row, q⟩
theorem RowAt.via (h1 : RowAt K H1 r) (k : Kp H1 H2) (h : RowAt K H' r) (e : H2 r = H' r) : RowAt K H2 r := by
  obtain ⟨sa, sc, i, s, n, a, b⟩ := h1.ex
  obtain ⟨i', s', n', a2⟩ := k.rows r sa i s n a
  obtain ⟨sa2, sc2, i2, s2, n2, c, d⟩ := h.ex
  rw [← e, a2] at c
  cases c
  exact ⟨sa, sc, i2, s', n', a2, k.lst nr_ints b⟩
theorem RowAt.ne (h : RowAt K H r) (hD : H D = none) : r ≠ D := fun z => by
  subst z
  obtain ⟨sa, sc, i, s, n, a, b⟩ := h.ex
  rw [hD] at a; cases a
end
section
variable {K : PySem.W.Frag} {J : It} {n : Nat} {it : Nat → V} {H1 : Hp} {te : TE} {vs : List Nat} {σ : St} {D r : Addr} {Qd : Hp → Prop} {j : Nat}
/-- [draw for x in range] -/
theorem lc_draw {α : Type} (f : α → V) (hf : ∀ a, isRef (f a) = false) (P : ∀ H, Plain J n it H) (hD : H1 D = none) (hn : n ≤ sizeLine) (hj : ∀ v, wipe ((wipe σ vs).set j (some v)) vs = wipe σ vs) (row : RowAt K H1 r) (Rs : α → Prop)
    (hs : ∀ i H (Q : VK), i < n → Kp H1 H → RowAt K H r → (∀ (s : α) H', Rs s → Kp H H' → RowAt K H' r → Q (f s) H') → te ((wipe σ vs).set j (some (it i))) H Q)
    (hd : ∀ H (ss : List α), Kp H1 H → RowAt K H r → H D = some (.lst (ss.map f)) → ss.length = n → (∀ s ∈ ss, Rs s) → Qd H) : LcW J (gName j) tYes te vs σ H1 D Qd := by
  have nD := row.ne hD
  have nr : ∀ {ss : List α}, ¬ isRow (.lst (ss.map f)) := fun {ss} => nr_vals fun v hv => by obtain ⟨i, _, rfl⟩ := List.mem_map.mp hv; exact hf i
  have k0 : Kp H1 (upd H1 D (.lst [])) := Kp.new Kp.refl hD
  refine ⟨fun i m H => m = n - i ∧ i ≤ n ∧ Kp H1 H ∧ RowAt K H r ∧ ∃ ss : List α, H D = some (.lst (ss.map f)) ∧ ss.length = i ∧ ∀ s ∈ ss, Rs s, ⟨_, rfl, Nat.zero_le _, k0, row.via k0 row (upd_ne nD), [], upd_same, rfl, fun s hs => by cases hs⟩, ?_⟩
  rintro i m H ⟨rfl, hi, k, rw1, ss, eD, hl, hr⟩
  by_cases hlt : i < n
  · refine .inr ⟨(P H).go i H (Same.refl _) hlt, fun H' => i + 1 ≤ n ∧ Kp H1 H' ∧ RowAt K H' r ∧ ∃ ss : List α, H' D = some (.lst (ss.map f)) ∧ ss.length = i + 1 ∧ ∀ s ∈ ss, Rs s, fun H' z => ⟨n - (i + 1), by omega, rfl, z⟩, fun x H' y => ?_⟩
    obtain ⟨e1, e2⟩ := (P H).yld i H x H' (Same.refl _) hlt y
    subst e1 e2
    refine ⟨hj _, ?_⟩
    refine rd_yes (iteT ?_)
    refine hs i H' _ hlt k rw1 fun s H2 h2 k2 row2 => ?_
    have k3 : Kp H1 (upd H2 D (.lst ((ss ++ [s]).map f))) := Kp.mut (k.trans k2) hD
    refine ⟨ss.map f, k2 _ _ nr eD, by rw [List.length_map]; omega, hlt, ?_⟩
    rw [show ss.map f ++ [f s] = (ss ++ [s]).map f by simp]
    exact ⟨k3, row.via k3 row2 (upd_ne nD), ss ++ [s], upd_same, by simp [hl], fun t ht => by
      rcases List.mem_append.mp ht with ht | ht
      · exact hr t ht
      · rw [List.mem_singleton.mp ht]; exact h2⟩
  · have e : i = n := by omega
    subst e
    exact .inl ⟨(P H).stop H (Same.refl _), hd H ss k rw1 eD hl hr⟩
end
end L2.Px
set_option Elab.async false
set_option linter.all false
set_option maxRecDepth 100000
set_option maxHeartbeats 1000000
namespace L2.Px
open PySem PySem.Spec PyProof.Rows StX TL ClX LamX
end L2.Px
namespace L2.Px
open PySem PySem.Spec PyProof.Rows StX TL ClX LamX
end L2.Px
namespace L2.Px
open PySem PySem.Spec PyProof.Rows StX TL ClX LamX
theorem rd_p18 {H : Hp} {Q : VK} (q : ∀ B : Int, B = 1000000000000000000 → Q (.int B) H) : rI CPow (fun i j => V.int (i ^ j.toNat)) (.int 10) (.int 18) H Q := rd_I ⟨by decide, by decide, by decide⟩ (q _ (by decide +kernel))
end L2.Px
namespace L2.Px
open PySem PySem.Spec PyProof.Rows StX TL ClX LamX
end L2.Px
set_option Elab.async false
set_option linter.all false
set_option maxRecDepth 100000
set_option maxHeartbeats 1000000
namespace L2.Px
open PySem PySem.Spec PyProof.Rows StX TL ClX LamX
theorem slTA {X : Cx} {K : PySem.W.Frag} (hk : X.K = K) : SlR X (rSlA K) := hk ▸ sl_tupA
section
variable {K : PySem.W.Frag} {H H' : Hp} {Q : VK} {a p : Addr} {ss : List Stp} {ms xs : List V} {n : Int} {v : V}
theorem TS'.len (h : TS' K H a ss) (q : Q (.int (ss.length : Nat)) H) : rLenA K [.ref a] H Q := by
  obtain ⟨ms, h1, h2⟩ := h
  exact rd_len_tup h1 (by rw [h2.1]; exact q)
theorem sIx_le (m d k : Nat) (h : k ≤ m) : HT.sIx m d (some (k : Int)) = k := by rw [HT.sIx_nat, Nat.min_eq_left h]
/-- a list of values that are no steps for n places -/
def BadL (K : PySem.W.Frag) (H : Hp) (n : Int) (bs : List V) : Prop := ∀ b ∈ bs, StVal K H n b false
theorem BadL.mono {bs : List V} (h : BadL K H n bs) (e : Same H H') : BadL K H' n bs := fun b hb => (h b hb).mono e
end
end L2.Px
set_option Elab.async false
set_option linter.all false
set_option maxRecDepth 100000
set_option maxHeartbeats 1000000
namespace L2.Px
open PySem PySem.Spec PyProof.Rows StX ClX LamX
section
variable {K : PySem.W.Frag} {h : Heap} {mg : Str → Option Value} {x qual : Str} {st : Stmt} {ps fs : List Str} {C D CT f : Addr}
theorem defI_mk (a : PySem.W.findIn K (.ref C) "__init__" = some (some (.ref f))) (t : PySem.W.typeIn K (.ref f) = some (.type "function")) (l : AtF K "__init__" qual st f) (k : PySem.W.keepIn K (.ref f) = true) (b : BF "__init__" qual st ps) : DefI K C qual st ps := by
  obtain ⟨fd, F⟩ := l.fun k
  exact ⟨f, fd, F, a, t, F.binds b⟩
theorem oex_mk {nm q : Str} {N : Addr} {bs bm : List Value} {sn : List Str} {sub : List Value} {ab : Bool} {col : Option Bool} {dd : Option Addr} {k0 k1 k2 k3 k5 : Option Value}
    (l : K.lookup C = some (excClassObj nm q C N bs bm true sn sub ab col dd k0 k1 k2 k3 k5 "ValueError.__new__")) (r : PySem.HandSPX.refsVE bm = true) (sa : PySem.W.findIn K (.ref C) "__setattr__" = some (some (.builtin "object.__setattr__")))
    (e : PySem.W.subIn K (.ref C) (.type "BaseException") = some true) (t : PySem.W.typeIn K (.ref C) = some (.type "type")) (k : PySem.W.keepIn K (.ref C) = true) : OexC K C := ⟨⟨nm, q, N, bs, bm, sn, sub, ab, col, dd, k0, k1, k2, k3, k5, l, r⟩, sa, e, t, k⟩
theorem xf_mk (a : PySem.W.findIn K (.ref C) "__getattribute__" = some (some (.builtin "BaseException.__getattribute__"))) (b : PySem.W.findIn K (.ref C) "__getattr__" = some none) (c : PySem.W.subIn K (.ref C) (.type "BaseException") = some true) (d : PySem.W.hasDictIn K C = true) : XfC K C := ⟨a, b, c, d⟩
theorem no1 {f : Str} (a : PySem.W.findIn K (.ref C) f = some none) : ∀ g ∈ [f], PySem.W.findIn K (.ref C) g = some none := fun g hg => by
  rw [List.mem_singleton] at hg; rw [hg]; exact a
theorem exm_mk (h1 : PySem.W.subIn K (.ref C) (.type "BaseException") = some true) (hd : PySem.W.hasDictIn K C = true) (ht : PySem.W.typeIn K (.ref C) = some (.type "type")) (h4 : PySem.W.subIn K (.ref D) (.ref C) = some true) : PySem.W.exmOne K (.ref D) (.ref C) = some true :=
  PySem.W.exm_ref h1 hd ht h4
theorem kit_ve (h : PySem.W.subIn K (.ref D) (.type "ValueError") = some true) : PySem.W.kitOne K (.ref D) (.type "ValueError") = some true := by
  unfold PySem.W.kitOne
  rw [if_neg (by simp)]
  exact h
theorem excC_mk (hg : PySem.W.findIn K (.ref D) "__getattribute__" = some (some (.builtin "BaseException.__getattribute__"))) (hk : PySem.W.findIn K (.ref D) "__getattr__" = some none) (hs : PySem.W.subIn K (.ref D) (.type "BaseException") = some true) (hd : PySem.W.hasDictIn K D = true)
    (ha : PySem.W.findIn K (.ref D) "__class__" = some (some (.builtin "object.__class__"))) (hn : PySem.W.specialIn K (.builtin "object.__class__") "__get__" = some (some (.builtin "getset_descriptor.__get__"))) (ht : PySem.W.takesIn K (.builtin "object.__class__") = some true) (hm : PySem.W.mroIn K D (.type "object") = some true) : ExcC K D :=
  ⟨hg, hk, hs, hd, ha, hn, ht, hm⟩
end
end L2.Px
set_option Elab.async false
set_option linter.all false
set_option maxRecDepth 100000
set_option maxHeartbeats 2000000
namespace L2.Px
open PySem PySem.Spec PyProof.Rows StX ClX LamX
def toW : List Str := ["InvalidStep", "InvalidOperation", "DecodeError", "NotationError", "TooLong", "InvalidPlace", "InvalidLetter", "Contradiction", "InvalidCount"]
def to10 : List Str := ["InvalidStep", "InvalidOperation", "DecodeError", "NotationError", "TooLong", "InvalidPlace", "InvalidLetter", "Contradiction", "InvalidCount", "other"]
theorem to10_at {i : Nat} {w : Str} (h : toW[i]? = some w) : to10[i]? = some w := by
  have hi : i < 9 := (List.getElem?_eq_some_iff.mp h).1
  rw [show to10 = toW ++ [("other" : Str)] from rfl, List.getElem?_append_left hi]; exact h
/-- what _law_told answers of the exception of the class cls, its dict d -/
def ToAns (K : PySem.W.Frag) (CT : Addr) (Cs : List Addr) (cls : Value) (d : Option Addr) (H : Hp) (Q : VK) : Prop := ∃ (i : Nat) (D : Addr) (w : Str), cls = .ref D ∧ RzC K CT Cs i D ∧ toW[i]? = some w ∧
  ((i < 2 ∧ RzF K D "index" ∧ ∃ (dd : Addr) (n : Int) (fs : List (Str × V)), d = some dd ∧ H dd = some (.xd fs) ∧ fs.lookup ("index" : Str) = some (.int n) ∧ ∀ p H', Same H H' → H' p = some (.tup [.str "error", .str w, .int n]) → Q (.ref p) H') ∨
    (i = 2 ∧ RzF K D "offset" ∧ ∃ (dd : Addr) (n : Int) (fs : List (Str × V)), d = some dd ∧ H dd = some (.xd fs) ∧ fs.lookup ("offset" : Str) = some (.int n) ∧ ∀ p H', Same H H' → H' p = some (.tup [.str "error", .str w, .int n]) → Q (.ref p) H') ∨
    (i = 3 ∧ RzF K D "row" ∧ RzF K D "word" ∧ ∃ (dd : Addr) (n m : V) (fs : List (Str × V)), d = some dd ∧ H dd = some (.xd fs) ∧ fs.lookup ("row" : Str) = some n ∧ fs.lookup ("word" : Str) = some m ∧ ∀ p H', Same H H' → H' p = some (.tup [.str "error", .str w, n, m]) → Q (.ref p) H') ∨
    (4 ≤ i ∧ d = none ∧ ∀ p H', Same H H' → H' p = some (.tup [.str "error", .str w]) → Q (.ref p) H'))
theorem ToAns.dict {K : PySem.W.Frag} {CT : Addr} {Cs : List Addr} {cls : Value} {d : Option Addr} {H : Hp} {Q : VK} (h : ToAns K CT Cs cls d H Q) : d = none ∨ ∃ dd fs, d = some dd ∧ H dd = some (.xd fs) := by
  obtain ⟨i, D, w, _, _, _, ⟨_, _, dd, n, fs, e, hx, _⟩ | ⟨_, _, dd, n, fs, e, hx, _⟩ | ⟨_, _, _, dd, n, m, fs, e, hx, _⟩ | ⟨_, e, _⟩⟩ := h
  · exact .inr ⟨dd, fs, e, hx⟩
  · exact .inr ⟨dd, fs, e, hx⟩
  · exact .inr ⟨dd, fs, e, hx⟩
  · exact .inl e
def kb9 (i : Nat) : List Bool := [decide (0 = i), decide (1 = i), decide (2 = i), decide (3 = i), decide (4 = i), decide (5 = i), decide (6 = i), decide (7 = i), decide (8 = i)]
theorem kb9_count : ∀ i, i < 9 → (kb9 i).count true = 1 := by decide
theorem kb9_at : ∀ i, i < 9 → (kb9 i)[i]? = some true := by decide
theorem kb9_no : ∀ i, i < 9 → ∀ m, m < i → (kb9 i)[m]? = some false := by decide
section
variable {K : PySem.W.Frag} {H : Hp} {Q : VK} {l : Addr}
theorem rd_kb9Index {i : Nat} (hi : i < 9) (h : H l = some (.lst ((kb9 i).map V.bl))) (q : Q (.int (i : Nat)) H) : rIndex K (.ref l) [.bl true] H Q := by
  refine ⟨l, (kb9 i).map V.bl, .bl true, i, .bl true, rfl, rfl, SqL.of h, rfl, ?_, ?_, rfl, fun m z hm hz => ?_, q⟩
  · rw [List.all_eq_true]; intro v hv; obtain ⟨b, _, rfl⟩ := List.mem_map.mp hv; rfl
  · rw [List.getElem?_map, kb9_at i hi]; rfl
  · rw [List.getElem?_map, kb9_no i hi m hm] at hz; cases hz; rfl
end
section
variable {X : Cx} {Ng : List Str} {x a xe n : Str} {sg : Scope} {g CS : Addr} {cdg : Value} {b₀ : Stmt} {suite : List Stmt} {i : Nat} {p1 p2 p3 np pos' pos : Pos} {ts : Addr → Value → Option Addr → TS} {Ans : Value → Option Addr → Hp → VK → Prop}
theorem gives_ret (hN : Ng.Nodup) (hi : Ng[i]? = some n) (hln : sg.names.lookup n = some .local) (hge : sg.names.lookup xe = some .globalImplicit) (hme : X.mg xe = some (.ref CS)) (hde : (xe == ("__debug__" : Str)) = false) (h0 : ∀ f : Addr, (start Ng [V.ref f])[0]? = some (some (V.ref f)))
    (hsu : ∀ (s : Shared) (H : Hp), Room 1 (X.A.deeper (envOfC x sg s.heap.objs.size g cdg)) → ∀ (e : Addr) (oe : Obj) (cls : Value) (d : Option Addr) (pn : List (Addr × Obj)), Zc cls d oe → (∃ vs, oe.data = .fields vs) → PSs ((cxOf CX0 X.prog X.w X.K X.mg X.base Ng x sg g cdg X.A X.stack s H E0).nox.suite e ((e, oe) :: pn)) (b₀ :: suite) (ts e cls d))
    (hexm : ∀ cls d H Q, Ans cls d H Q → PySem.W.exmOne X.K cls (.ref CS) = some true)
    (hans : ∀ (cls : Value) (d : Option Addr) (H : Hp) (Q : VK) (f e : Addr) (nx bk ct : St → Hp → Prop), Ans cls d H Q → H e = none → ts e cls d ⟨nx, Q, bk, ct⟩ ((start Ng [.ref f]).set i (some (.ref e))) H) :
    Gives X Ng x sg g cdg [.Try [.Return (some (.Call (.Name a p1) [] [] p2)) p3] [.ExceptHandler (some (.Name xe np)) (some n) (b₀ :: suite) pos'] [] [] pos] a (fun tl H Q => tl (fun cls d H' => Ans cls d H' Q) H Q) := by
  intro f s H Q tl LP hr act hl h
  have hgl : Gl (cxOf CX0 X.prog X.w X.K X.mg X.base Ng x sg g cdg X.A X.stack s H E0).nox xe := hge
  refine ⟨_, pss_one (ps_try_as (X := (cxOf CX0 X.prog X.w X.K X.mg X.base Ng x sg g cdg X.A X.stack s H E0).nox) (c := .ref CS) (i := i) (ts := ts)
      (tb := fun W D σ H => ∃ Ech : XK, σ[0]? = some (some (.ref f)) ∧ LP H ∧ (∀ cls d H', Ech cls d H' → W cls d σ H') ∧ tl Ech H D.rt) rfl rfl hN hi hln ⟨hgl, hde, .inl hme⟩ takes0 (fun W pn xe tk _ => ?_) (fun e oe cls d pn hz hf => hsu s H hr e oe cls d pn hz hf)), ?_⟩
  · refine ⟨fun pins s' σ H' D I ⟨Ech, h1, h2, h3, h4⟩ => ?_⟩
    exact (pss_one (ps_ret (pos := p3) (act W pn xe Ech p1 p2 tk))).run pins s' σ H' D I ⟨h1, h2, h3, h4⟩
  · exact ⟨fun cls d H' => Ans cls d H' Q, h0 f, hl, fun cls d H' hq => ⟨true, hexm _ _ _ _ hq, fun _ e he => hans cls d H' Q f e _ _ _ hq he, fun z => nomatch z⟩, h⟩
end
section
variable {K : PySem.W.Frag} {D C0 C1 C2 C3 C4 C5 C6 C7 C8 : Addr} {i : Nat}
theorem kit_all9 (k0 : PySem.W.kitOne K (.ref D) (.ref C0) = some (decide (0 = i))) (k1 : PySem.W.kitOne K (.ref D) (.ref C1) = some (decide (1 = i))) (k2 : PySem.W.kitOne K (.ref D) (.ref C2) = some (decide (2 = i))) (k3 : PySem.W.kitOne K (.ref D) (.ref C3) = some (decide (3 = i)))
    (k4 : PySem.W.kitOne K (.ref D) (.ref C4) = some (decide (4 = i))) (k5 : PySem.W.kitOne K (.ref D) (.ref C5) = some (decide (5 = i))) (k6 : PySem.W.kitOne K (.ref D) (.ref C6) = some (decide (6 = i))) (k7 : PySem.W.kitOne K (.ref D) (.ref C7) = some (decide (7 = i))) (k8 : PySem.W.kitOne K (.ref D) (.ref C8) = some (decide (8 = i))) :
    ∀ (j : Nat) C, [C0, C1, C2, C3, C4, C5, C6, C7, C8][j]? = some C → PySem.W.kitOne K (.ref D) (.ref C) = some (decide (j = i)) := fun j C hj => by
  match j, hj with
  | 0, hj => cases hj; exact k0
  | 1, hj => cases hj; exact k1
  | 2, hj => cases hj; exact k2
  | 3, hj => cases hj; exact k3
  | 4, hj => cases hj; exact k4
  | 5, hj => cases hj; exact k5
  | 6, hj => cases hj; exact k6
  | 7, hj => cases hj; exact k7
  | 8, hj => cases hj; exact k8
  | j + 9, hj => simp at hj
end
section
variable {K : PySem.W.Frag} {CE C d p q : Addr} {Cs : List Addr} {H : Hp} {Q : VK}
theorem to_off {n : Int} (z : RzC K CE Cs 2 C) (zf : RzF K C "offset") (hx : H d = some (.xd [("offset", .int n)])) (k : ∀ p H', Same H H' → H' p = some (.tup [.str "error", .str "DecodeError", .int n]) → Q (.ref p) H') : ToAns K CE Cs (.ref C) (some d) H Q :=
  ⟨2, C, "DecodeError", rfl, z, rfl, .inr (.inl ⟨rfl, zf, d, n, _, rfl, hx, by simp [List.lookup], k⟩)⟩
theorem to_word {w : Str} (i : Nat) (hi : 4 ≤ i) (z : RzC K CE Cs i C) (hw : toW[i]? = some w) (k : ∀ p H', Same H H' → H' p = some (.tup [.str "error", .str w]) → Q (.ref p) H') : ToAns K CE Cs (.ref C) none H Q :=
  ⟨i, C, w, rfl, z, hw, .inr (.inr (.inr ⟨hi, rfl, k⟩))⟩
theorem dp_e2 {w z : Str} (h : H p = some (.tup [.str w, .str z])) : Dp K H (.ref p) (.tuple [.str w, .str z]) := .tup (SqT.of h) (.cons (.str w) (.cons (.str z) .nil))
theorem dp_e3 {w z : Str} {n : Int} (h : H p = some (.tup [.str w, .str z, .int n])) : Dp K H (.ref p) (.tuple [.str w, .str z, .int n]) := .tup (SqT.of h) (.cons (.str w) (.cons (.str z) (.cons (.int n) .nil)))
theorem dok_e2 {w z : Str} (hw : PySem.PyData.strOk w = true) (hz : PySem.PyData.strOk z = true) : DOk 1 (.tuple [.str w, .str z]) := .tup fun d hd => by
  simp only [List.mem_cons, List.not_mem_nil, or_false] at hd
  rcases hd with rfl | rfl
  · exact .str hw
  · exact .str hz
theorem dok_e3 {w z : Str} {n : Int} (hw : PySem.PyData.strOk w = true) (hz : PySem.PyData.strOk z = true) : DOk 1 (.tuple [.str w, .str z, .int n]) := .tup fun d hd => by
  simp only [List.mem_cons, List.not_mem_nil, or_false] at hd
  rcases hd with rfl | rfl | rfl
  · exact .str hw
  · exact .str hz
  · exact .int
theorem rd_neE2 {w z : Str} (h : H p = some (.tup [.str w, .str z])) (g : H q = some (.tup [.str w, .str z])) (hw : PySem.PyData.strOk w = true) (hz : PySem.PyData.strOk z = true) (k : Q (.bl false) H) : rNeA K (.ref p) (.ref q) H Q :=
  rd_ne_same (dp_e2 h) (dp_e2 g) (dok_e2 hw hz) (by decide) k
theorem rd_neE3 {w z : Str} {n m : Int} (e : n = m) (h : H p = some (.tup [.str w, .str z, .int n])) (g : H q = some (.tup [.str w, .str z, .int m])) (hw : PySem.PyData.strOk w = true) (hz : PySem.PyData.strOk z = true) (k : Q (.bl false) H) : rNeA K (.ref p) (.ref q) H Q := by
  subst e
  exact rd_ne_same (dp_e3 h) (dp_e3 g) (dok_e3 hw hz) (by decide) k
end
end L2.Px
set_option Elab.async false
set_option linter.all false
set_option maxRecDepth 100000
set_option maxHeartbeats 1000000
namespace L2.Px
open PySem PySem.Spec PyProof.Rows StX TL ClX LamX
structure Km (C : Addr) (T : List (Addr × Str)) (H H' : Hp) : Prop where
  keep : ∀ b o, ¬ isRow o → (∀ ps, o ≠ .tbl ps) → (∀ dx fs, o ≠ .ins C dx fs) → H b = some o → H' b = some o
  rows : ∀ (b sa : Addr) (i s e : Int), H b = some (.lst [.ref sa, .int i, .int s, .int e]) → ∃ i' s' e' : Int, H' b = some (.lst [.ref sa, .int i', .int s', .int e'])
  tabs : Tabs T H → Tabs T H'
section
variable {K : PySem.W.Frag} {CT CP C : Addr} {T : List (Addr × Str)} {H H' H1 : Hp} {a e l : Addr} {o : HO} {v : V} {xs ms ps : List V} {s : Stp} {ss : List Stp} {t : TxI} {L : List Nat} {n y : Nat}
theorem Km.refl : Km C T H H := ⟨fun _ _ _ _ _ h => h, fun _ _ _ _ _ h => ⟨_, _, _, h⟩, id⟩
theorem Km.trans (a : Km C T H H1) (b : Km C T H1 H') : Km C T H H' := ⟨fun c o hc hn hi h => b.keep c o hc hn hi (a.keep c o hc hn hi h), fun c sa i s e h => let ⟨i', s', e', h'⟩ := a.rows c sa i s e h; b.rows c sa i' s' e' h', fun t => b.tabs (a.tabs t)⟩
theorem Km.kl (e : Kl T H H') : Km C T H H' := ⟨fun b o hr ht _ h => e.keep b o hr ht h, e.rows, e.tabs⟩
theorem Km.same (e : Same H H') : Km C T H H' := .kl (.same e)
theorem Km.kp (e : Kp H H') : Km C T H H' := .kl (.kp e)
theorem But.ins {x : Addr} (e : But x H H') {dx : Addr} {fs : List (Str × V)} (hx : H x = some (.ins C dx fs)) (hn : ∀ dx fs, o ≠ .ins C dx fs) (h : H a = some o) : H' a = some o :=
  e a o (fun z => hn dx fs (by subst z; rw [hx] at h; exact (Option.some.inj h).symm)) h
theorem Km.but {x dx : Addr} {fs : List (Str × V)} (e : But x H H') (hx : H x = some (.ins C dx fs)) : Km C T H H' := by
  refine .mk (fun b o _ _ hi h => ?a) (fun b sa i s n h => ?b) (fun t p hp => ?_)
  · exact e.ins hx hi h
  · exact ⟨_, _, _, e.ins hx (fun _ _ z => nomatch z) h⟩
  obtain ⟨ps, h1, h2, h3⟩ := t p hp
  refine ⟨ps, e.ins hx (fun _ _ z => nomatch z) h1, h2, fun pos cv hc => ?_⟩
  obtain ⟨c, h4, h5⟩ := h3 pos cv hc
  exact ⟨c, h4, e.ins hx (fun _ _ z => nomatch z) h5⟩
theorem Km.tup (e : Km C T H H') (h : SqT K H a xs) : SqT K H' a xs := by
  rcases h with (h | ⟨o, h⟩) | h
  · exact .inl (.inl (e.keep _ _ nr_tup (fun ps z => nomatch z) (fun _ _ z => nomatch z) h))
  · exact .inl (.inr ⟨o, e.keep _ _ nr_frz (fun ps z => nomatch z) (fun _ _ z => nomatch z) h⟩)
  · exact .inr h
theorem Km.lst (e : Km C T H H') (n : ¬ isRow (.lst xs)) (h : SqL K H a xs) : SqL K H' a xs := by
  rcases h with (h | ⟨o, h⟩) | h
  · exact .inl (.inl (e.keep _ _ n (fun ps z => nomatch z) (fun _ _ z => nomatch z) h))
  · exact .inl (.inr ⟨o, e.keep _ _ nr_frz (fun ps z => nomatch z) (fun _ _ z => nomatch z) h⟩)
  · exact .inr h
theorem Km.li (e : Km C T H H') (n : ¬ isRow (.lst xs)) (h : H a = some (.lst xs)) : H' a = some (.lst xs) := e.keep _ _ n (fun _ z => nomatch z) (fun _ _ z => nomatch z) h
theorem Km.tu (e : Km C T H H') (h : H a = some (.tup xs)) : H' a = some (.tup xs) := e.keep _ _ nr_tup (fun _ z => nomatch z) (fun _ _ z => nomatch z) h
theorem StepAt.km (h : StepAt K H v s) (e : Km C T H H') : StepAt K H' v s := let ⟨a, ev, q⟩ := h; ⟨a, ev, e.tup q⟩
theorem StepsAt.km (h : StepsAt K H ms ss) (e : Km C T H H') : StepsAt K H' ms ss := ⟨h.1, fun j s q => let ⟨v, a, b⟩ := h.2 j s q; ⟨v, a, b.km e⟩⟩
theorem ins_ne {D dx : Addr} {fs : List (Str × V)} (hn : D ≠ C) : ∀ dx' fs', HO.ins D dx fs ≠ .ins C dx' fs' := fun dx' fs' z => hn (by cases z; rfl)
theorem PartAt.km (hn : CP ≠ C) (h : PartAt CP H v n y s) (e : Km C T H H') : PartAt CP H' v n y s := by
  cases s with
  | wr w => obtain ⟨p, dx, ev, q⟩ := h; exact ⟨p, dx, ev, e.keep _ _ nr_ins (fun _ z => nomatch z) (ins_ne hn) q⟩
  | pa f l t => obtain ⟨p, dx, ev, q⟩ := h; exact ⟨p, dx, ev, e.keep _ _ nr_ins (fun _ z => nomatch z) (ins_ne hn) q⟩
theorem PartsAt.km (hn : CP ≠ C) (h : PartsAt CP H ps ss) (e : Km C T H H') : PartsAt CP H' ps ss := ⟨h.1, fun j s q => let ⟨v, a, b⟩ := h.2 j s q; ⟨v, a, b.km hn e⟩⟩
theorem TextAt.km (hT : CT ≠ C) (hP : CP ≠ C) (h : TextAt K CT CP H a t) (e : Km C T H H') : TextAt K CT CP H' a t :=
  ⟨e.keep _ _ nr_ins (fun _ z => nomatch z) (ins_ne hT) h.ins, e.tup h.made, h.stp.km e, e.keep _ _ (nr_refs h.prt.refs) (fun _ z => nomatch z) (fun _ _ z => nomatch z) h.pls, h.prt.km hP e, h.ok, h.few⟩
theorem TX.km (h : TX K CT CP H a ss) (hT : CT ≠ C) (hP : CP ≠ C) (e : Km C T H H') : TX K CT CP H' a ss := let ⟨t, x, y⟩ := h; ⟨t, x.km hT hP e, y⟩
theorem TS'.km (h : TS' K H a ss) (e : Km C T H H') : TS' K H' a ss := let ⟨ms, x, y⟩ := h; ⟨ms, e.tup x, y.km e⟩
theorem SX.km (h : SX K H a ss) (e : Km C T H H') : SX K H' a ss := let ⟨ms, x, y⟩ := h; ⟨ms, x.imp (e.tup ·) (e.keep _ _ (nr_refs y.refs) (fun _ z => nomatch z) (fun _ _ z => nomatch z) ·), y.km e⟩
theorem But.seqL {x dx : Addr} {fs : List (Str × V)} (e : But x H H') (hx : H x = some (.ins C dx fs)) (h : SqL K H a xs) : SqL K H' a xs := by
  rcases h with (h | ⟨o, h⟩) | h
  · exact .inl (.inl (e.ins hx (fun _ _ z => nomatch z) h))
  · exact .inl (.inr ⟨o, e.ins hx (fun _ _ z => nomatch z) h⟩)
  · exact .inr h
theorem RowAt.but {x dx r : Addr} {fs : List (Str × V)} (h : RowAt K H r) (e : But x H H') (hx : H x = some (.ins C dx fs)) : RowAt K H' r :=
  let ⟨sa, sc, i, s, n, a, b⟩ := h.ex; ⟨sa, sc, i, s, n, e.ins hx (fun _ _ z => nomatch z) a, e.seqL hx b⟩
end
inductive Op where
  | st (s : Stp)
  | re (p c : Nat)
deriving DecidableEq
def opV : Op → List V
  | .st s => stV s
  | .re p c => [.str "retype", .int (p : Nat), .str ⟨#[c]⟩]
def OpAt (K : PySem.W.Frag) (H : Hp) (v : V) (o : Op) : Prop := ∃ a, v = .ref a ∧ SqT K H a (opV o)
/-- the text after an operation -/
def aft (ss : List Stp) : Op → List Stp
  | .st s => ss ++ [s]
  | .re p c => rt (kat ss p) c 0 ss
/-- what an operation answers -/
def opN (ss : List Stp) : Op → Nat
  | .st s => sz (ss ++ [s])
  | .re p c => if lat ss (kat ss p) = c then 0 else cn ss (sz ss) (kat ss p)
def okOp (ss : List Stp) : Op → Prop
  | .st s => okStep (sz ss) s ∧ ss.length < 30 ∧ sz ss + len1 s ≤ 1000000000000000000
  | .re p c => p < sz ss ∧ 97 ≤ c ∧ c ≤ 122
/-- an entry of an editor: the operation, the texts before and after -/
structure Ent where
  o : Op
  b : List Stp
  a : List Stp
def EntAt (K : PySem.W.Frag) (CT CP : Addr) (H : Hp) (v : V) (e : Ent) : Prop := ∃ t o b a, v = .ref t ∧ SqT K H t [o, .ref b, .ref a] ∧ OpAt K H o e.o ∧ TX K CT CP H b e.b ∧ TX K CT CP H a e.a
def EntsAt (K : PySem.W.Frag) (CT CP : Addr) (H : Hp) (ms : List V) (es : List Ent) : Prop := ms.length = es.length ∧ ∀ (j : Nat) e, es[j]? = some e → ∃ v, ms[j]? = some v ∧ EntAt K CT CP H v e
/-- an editor's fields -/
def edF (p d u kp kd ku : V) : List (Str × V) := [("present", p), ("done", d), ("undone", u), ("is_open", .bl false), ("kept_present", kp), ("kept_done", kd), ("kept_undone", ku)]
section
variable {p d u kp kd ku v : V} {f : Str}
theorem putF_nil {g : Str} {v : V} : putF g v [] = [(g, v)] := rfl
theorem putF_miss {f g : Str} {v x : V} {r : List (Str × V)} (h : g ≠ f) : putF f v ((g, x) :: r) = (g, x) :: putF f v r := if_neg h
theorem edF_present : (edF p d u kp kd ku).lookup ("present" : Str) = some p := by unfold edF; rw [List.lookup_cons_self]
theorem edF_done : (edF p d u kp kd ku).lookup ("done" : Str) = some d := by
  unfold edF; rw [List.lookup_cons, show (("done" : Str) == "present") = false by decide +kernel]; simp only; rw [List.lookup_cons_self]
theorem edF_undone : (edF p d u kp kd ku).lookup ("undone" : Str) = some u := by
  unfold edF; rw [List.lookup_cons, show (("undone" : Str) == "present") = false by decide +kernel]; simp only
  rw [List.lookup_cons, show (("undone" : Str) == "done") = false by decide +kernel]; simp only; rw [List.lookup_cons_self]
theorem edF_no (h : f ≠ "present" ∧ f ≠ "done" ∧ f ≠ "undone" ∧ f ≠ "is_open" ∧ f ≠ "kept_present" ∧ f ≠ "kept_done" ∧ f ≠ "kept_undone") : (edF p d u kp kd ku).lookup f = none := by
  unfold edF
  simp only [List.lookup_cons, beq_false_of_ne h.1, beq_false_of_ne h.2.1, beq_false_of_ne h.2.2.1, beq_false_of_ne h.2.2.2.1, beq_false_of_ne h.2.2.2.2.1, beq_false_of_ne h.2.2.2.2.2.1, beq_false_of_ne h.2.2.2.2.2.2, List.lookup_nil]
/-- as __init__ makes them -/
theorem edF_made {p d u kp kd ku : V} : putF "kept_undone" ku (putF "kept_done" kd (putF "kept_present" kp (putF "is_open" (.bl false) (putF "undone" u (putF "done" d (putF "present" p [])))))) = edF p d u kp kd ku := by
  unfold edF
  rw [putF_nil]
  rw [putF_miss (f := "done") (g := "present") (by decide +kernel), putF_nil]
  rw [putF_miss (f := "undone") (g := "present") (by decide +kernel), putF_miss (f := "undone") (g := "done") (by decide +kernel), putF_nil]
  rw [putF_miss (f := "is_open") (g := "present") (by decide +kernel), putF_miss (f := "is_open") (g := "done") (by decide +kernel), putF_miss (f := "is_open") (g := "undone") (by decide +kernel), putF_nil]
  rw [putF_miss (f := "kept_present") (g := "present") (by decide +kernel), putF_miss (f := "kept_present") (g := "done") (by decide +kernel), putF_miss (f := "kept_present") (g := "undone") (by decide +kernel), putF_miss (f := "kept_present") (g := "is_open") (by decide +kernel), putF_nil]
  rw [putF_miss (f := "kept_done") (g := "present") (by decide +kernel), putF_miss (f := "kept_done") (g := "done") (by decide +kernel), putF_miss (f := "kept_done") (g := "undone") (by decide +kernel), putF_miss (f := "kept_done") (g := "is_open") (by decide +kernel), putF_miss (f := "kept_done") (g := "kept_present") (by decide +kernel), putF_nil]
  rw [putF_miss (f := "kept_undone") (g := "present") (by decide +kernel), putF_miss (f := "kept_undone") (g := "done") (by decide +kernel), putF_miss (f := "kept_undone") (g := "undone") (by decide +kernel), putF_miss (f := "kept_undone") (g := "is_open") (by decide +kernel), putF_miss (f := "kept_undone") (g := "kept_present") (by decide +kernel), putF_miss (f := "kept_undone") (g := "kept_done") (by decide +kernel), putF_nil]
end
/-- an editor: its text, what is done and what is undone -/
structure EdI where
  dx : Addr
  p : Addr
  d : Addr
  u : Addr
  kp : V
  kd : V
  ku : V
  dm : List V
  um : List V
  ss : List Stp
  ds : List Ent
  us : List Ent
structure EdAtI (K : PySem.W.Frag) (CT CP CE : Addr) (H : Hp) (e : Addr) (i : EdI) : Prop where
  ins : H e = some (.ins CE i.dx (edF (.ref i.p) (.ref i.d) (.ref i.u) i.kp i.kd i.ku))
  tx : TX K CT CP H i.p i.ss
  dn : SqT K H i.d i.dm
  de : EntsAt K CT CP H i.dm i.ds
  un : SqT K H i.u i.um
  ue : EntsAt K CT CP H i.um i.us
def EdAt (K : PySem.W.Frag) (CT CP CE : Addr) (H : Hp) (e : Addr) (ss : List Stp) (ds us : List Ent) : Prop := ∃ i, EdAtI K CT CP CE H e i ∧ i.ss = ss ∧ i.ds = ds ∧ i.us = us
section
variable {K : PySem.W.Frag} {CT CP CE C : Addr} {T : List (Addr × Str)} {H H' : Hp} {a e x : Addr} {v : V} {o : Op} {en : Ent} {es ds us : List Ent} {ms : List V} {ss : List Stp} {i : EdI}
theorem OpAt.km (h : OpAt K H v o) (k : Km C T H H') : OpAt K H' v o := let ⟨a, ev, q⟩ := h; ⟨a, ev, k.tup q⟩
theorem EntAt.km (hT : CT ≠ C) (hP : CP ≠ C) (h : EntAt K CT CP H v en) (k : Km C T H H') : EntAt K CT CP H' v en := let ⟨t, o, b, a, ev, q, h1, h2, h3⟩ := h; ⟨t, o, b, a, ev, k.tup q, h1.km k, h2.km hT hP k, h3.km hT hP k⟩
theorem EntsAt.km (hT : CT ≠ C) (hP : CP ≠ C) (h : EntsAt K CT CP H ms es) (k : Km C T H H') : EntsAt K CT CP H' ms es := ⟨h.1, fun j s q => let ⟨v, a, b⟩ := h.2 j s q; ⟨v, a, b.km hT hP k⟩⟩
theorem EntsAt.nil : EntsAt K CT CP H [] [] := ⟨rfl, fun _ _ h => by simp at h⟩
theorem EntsAt.snoc (h : EntsAt K CT CP H ms es) (g : EntAt K CT CP H v en) : EntsAt K CT CP H (ms ++ [v]) (es ++ [en]) := by
  refine ⟨by simp [h.1], fun j s hj => ?_⟩
  rcases Nat.lt_or_ge j es.length with z | z
  · rw [List.getElem?_append_left z] at hj
    obtain ⟨v', a, b⟩ := h.2 j s hj
    exact ⟨v', by rw [List.getElem?_append_left (by rw [h.1]; exact z)]; exact a, b⟩
  · have e : j = es.length := by
      have := (List.getElem?_eq_some_iff.mp hj).1
      rw [List.length_append, List.length_singleton] at this; omega
    subst e
    rw [List.getElem?_append_right (Nat.le_refl _), Nat.sub_self] at hj
    cases hj
    exact ⟨v, by rw [← h.1, List.getElem?_append_right (Nat.le_refl _), Nat.sub_self]; rfl, g⟩
theorem EdAtI.same (h : EdAtI K CT CP CE H e i) (k : Same H H') : EdAtI K CT CP CE H' e i := by
  refine ⟨k _ _ h.ins, h.tx.kp (.same k), (Same.tup k h.dn), ⟨h.de.1, fun j s q => ?_⟩, (Same.tup k h.un), ⟨h.ue.1, fun j s q => ?_⟩⟩
  · obtain ⟨v, a, t, o, b, c, ev, z, ⟨oa, h0, h1⟩, h2, h3⟩ := h.de.2 j s q
    exact ⟨v, a, t, o, b, c, ev, (Same.tup k z), ⟨oa, h0, (Same.tup k h1)⟩, h2.kp (.same k), h3.kp (.same k)⟩
  · obtain ⟨v, a, t, o, b, c, ev, z, ⟨oa, h0, h1⟩, h2, h3⟩ := h.ue.2 j s q
    exact ⟨v, a, t, o, b, c, ev, (Same.tup k z), ⟨oa, h0, (Same.tup k h1)⟩, h2.kp (.same k), h3.kp (.same k)⟩
theorem EdAt.same (h : EdAt K CT CP CE H e ss ds us) (k : Same H H') : EdAt K CT CP CE H' e ss ds us := let ⟨i, a, b⟩ := h; ⟨i, a.same k, b⟩
/-- another editor changes -/
theorem EdAtI.km (hT : CT ≠ CE) (hP : CP ≠ CE) (h : EdAtI K CT CP CE H e i) (k : Km CE T H H') (hi : H' e = H e) : EdAtI K CT CP CE H' e i :=
  ⟨hi.trans h.ins, h.tx.km hT hP k, k.tup h.dn, h.de.km hT hP k, k.tup h.un, h.ue.km hT hP k⟩
theorem EdAt.km (hT : CT ≠ CE) (hP : CP ≠ CE) (h : EdAt K CT CP CE H e ss ds us) (k : Km CE T H H') (hi : H' e = H e) : EdAt K CT CP CE H' e ss ds us := let ⟨i, a, b⟩ := h; ⟨i, a.km hT hP k hi, b⟩
theorem EdAt.kl (hT : CT ≠ CE) (hP : CP ≠ CE) (h : EdAt K CT CP CE H e ss ds us) (k : Kl T H H') : EdAt K CT CP CE H' e ss ds us := by
  obtain ⟨i, a, b⟩ := h
  exact ⟨i, a.km hT hP (.kl k) ((k.keep _ _ nr_ins (fun _ z => nomatch z) a.ins).trans a.ins.symm), b⟩
theorem EdAt.kp (hT : CT ≠ CE) (hP : CP ≠ CE) (h : EdAt K CT CP CE H e ss ds us) (k : Kp H H') : EdAt K CT CP CE H' e ss ds us := h.kl (T := []) hT hP (.kp k)
theorem EdAt.but (hT : CT ≠ CE) (hP : CP ≠ CE) (h : EdAt K CT CP CE H e ss ds us) (k : But x H H') (hx : H x = some (.ins C (i.dx) (edF (.ref i.p) (.ref i.d) (.ref i.u) i.kp i.kd i.ku))) (hC : C = CE) (ne : e ≠ x) : EdAt K CT CP CE H' e ss ds us := by
  subst hC
  obtain ⟨j, a, b⟩ := h
  exact ⟨j, a.km hT hP (Km.but (T := []) k hx) ((k _ _ ne a.ins).trans a.ins.symm), b⟩
theorem EdAt.insA (h : EdAt K CT CP CE H e ss ds us) : InsA H e CE := let ⟨_, a, _⟩ := h; ⟨_, _, a.ins⟩
theorem EdAt.insM {m : Str} (h : EdAt K CT CP CE H e ss ds us) (hm : m ≠ "present" ∧ m ≠ "done" ∧ m ≠ "undone" ∧ m ≠ "is_open" ∧ m ≠ "kept_present" ∧ m ≠ "kept_done" ∧ m ≠ "kept_undone" := by decide +kernel) : InsM H e CE m := let ⟨_, a, _⟩ := h; ⟨_, _, a.ins, edF_no hm⟩
end
section
variable (K : PySem.W.Frag) (CIS CTL CIP CIL CT CP CE : Addr)
/-- a step, its values xs, is added to the text of the editor e -/
def AddOut (H : Hp) (e : Addr) (ss : List Stp) (ds : List Ent) (xs : List V) (Q : VK) (E : XK) : Prop :=
  (∃ s, xs = stV s ∧ okStep (sz ss) s ∧ ss.length < 30 ∧ sz ss + len1 s ≤ 1000000000000000000 ∧ ∀ H', But e H H' → EdAt K CT CP CE H' e (ss ++ [s]) (ds ++ [⟨.st s, ss, ss ++ [s]⟩]) [] → Q (.int (sz (ss ++ [s]) : Nat)) H') ∨
  ((ss.length = 30 ∨ isSt (sz ss) xs = false) ∧ ∀ d H', Same H H' → H' d = some (.xd [("index", .int (ss.length : Nat))]) → E (.ref CIS) (some d) H') ∨
  (∃ s, xs = stV s ∧ okStep (sz ss) s ∧ ss.length < 30 ∧ 1000000000000000000 < sz ss + len1 s ∧ ∀ H', Same H H' → E (.ref CTL) none H')
def RetOut (H : Hp) (e : Addr) (ss : List Stp) (ds : List Ent) (p l : V) (Q : VK) (E : XK) : Prop :=
  (∃ i c : Nat, p = .int (i : Nat) ∧ l = .str ⟨#[c]⟩ ∧ i < sz ss ∧ 97 ≤ c ∧ c ≤ 122 ∧ ∀ H', But e H H' → EdAt K CT CP CE H' e (aft ss (.re i c)) (ds ++ [⟨.re i c, ss, aft ss (.re i c)⟩]) [] → Q (.int (opN ss (.re i c) : Nat)) H') ∨
  (isInt 0 ((sz ss : Int) - 1) p = false ∧ ∀ H', Same H H' → E (.ref CIP) none H') ∨
  (isInt 0 ((sz ss : Int) - 1) p = true ∧ isLet l = false ∧ ∀ H', Same H H' → E (.ref CIL) none H')
def sp_Editor_init : Sp := fun vs H Q _ => ∃ x dx m rs ss, vs = [.ref x, .ref m] ∧ H x = some (.ins CE dx []) ∧ SqT K H m rs ∧ StepsAt K H rs ss ∧ okFrom 0 ss ∧ ss.length ≤ 30 ∧ ∀ H', But x H H' → EdAt K CT CP CE H' x ss [] [] → Q .non H'
/-- operations, one after another -/
def runB : List Stp → List Op → List Stp
  | ss, [] => ss
  | ss, o :: r => runB (aft ss o) r
def OpsAt (K : PySem.W.Frag) (H : Hp) (ms : List V) (os : List Op) : Prop := ms.length = os.length ∧ ∀ (j : Nat) o, os[j]? = some o → ∃ v, ms[j]? = some v ∧ OpAt K H v o
/-- an operation of valid form is executed -/
def ExOut (H : Hp) (e : Addr) (ss : List Stp) (ds : List Ent) (xs : List V) (Q : VK) (E : XK) : Prop :=
  match xs with
  | [_, p, l] => RetOut K CIP CIL CT CP CE H e ss ds p l Q E
  | _ => AddOut K CIS CTL CT CP CE H e ss ds xs Q E
def sp_Editor_present_text : Sp := fun vs H Q _ => ∃ e ss ds us, vs = [.ref e] ∧ EdAt K CT CP CE H e ss ds us ∧ ∀ a, TX K CT CP H a ss → Q (.ref a) H
end
end L2.Px
set_option Elab.async false
set_option linter.all false
set_option maxRecDepth 100000
set_option maxHeartbeats 1000000
namespace L2.Px
open PySem PySem.Spec PyProof.Rows StX TL ClX LamX
/-- v, w are no range of a text -/
def NoRng (ss : List Stp) (v w : V) : Prop := isInt 0 (sz ss : Nat) v = false ∨ ∃ i : Int, v = .int i ∧ isInt 0 (sz ss : Nat) v = true ∧ isInt (i - 1) ((sz ss : Nat) - 1) w = false
end L2.Px
set_option Elab.async false
set_option linter.all false
set_option maxRecDepth 100000
set_option maxHeartbeats 1000000
namespace L2.Px
open PySem PySem.Spec PyProof.Rows StX TL ClX LamX
section
variable {P : Program} {w : World} {K : PySem.W.Frag} {mg : Str → Option Value} {base : Heap} {k : Nat} {x : Str} {st : Stmt} {ps : List Str} {dvs : List V} {sp : Sp}
theorem DefGF.okX {N : List Str} (D : DefGF K mg x st ps dvs) (S : FnScope N ps (defScope st)) (len : ∀ vs H Q E, sp vs H Q E → vs.length = ps.length)
    (hbody : ∀ (f : Addr) (cdv : Value) (A : Around) (outer : List Env) (s : Shared) (H : Hp) (vs : List V) (Q : VK) (E : XK), Room k (A.deeper (envOfC x (defScope st) s.heap.objs.size f cdv)) → sp vs H Q E →
      ∃ t, PSs (cxOf (L2.CX P w) P w K mg base N x (defScope st) f cdv A outer s H E) (defBody st) t ∧ t { nx := fun _ H' => Q .non H', rt := Q } (start N vs) H) : GOk P w K mg base (L2.CX P w) (k + 1) x (fun vs => sp (vs ++ dvs)) := by
  obtain ⟨f, fd, F, a, ⟨ds, hd, b⟩, b0⟩ := D
  exact ⟨f, FnOk.toR1 (F.ok (CX := L2.CX P w) S len fun cdv A outer s H vs Q E hr h => hbody f cdv A outer s H vs Q E hr h) b hd, a, F.kp⟩
end
/-- v is no change of a text of n keys -/
def isCh (n : Int) : List V → Bool
  | [x, y] => isInt 0 (n - 1) x && isLet y
  | _ => false
def BadCh (K : PySem.W.Frag) (H : Hp) (n : Int) (v : V) : Prop := NoSeq v ∨ ∃ a xs, v = .ref a ∧ (∀ x ∈ xs, NoSeq x ∧ ∀ z, x = .str z → z.length ≤ sizeLine) ∧ ((SqT K H a xs ∧ isCh n xs = false) ∨ SqL K H a xs)
section
variable {K : PySem.W.Frag} {H H' : Hp} {n : Int} {v : V}
theorem BadCh.mono (h : BadCh K H n v) (e : Same H H') : BadCh K H' n v := by
  rcases h with h | ⟨a, xs, ev, hx, h | h⟩
  · exact .inl h
  · exact .inr ⟨a, xs, ev, hx, .inl ⟨Same.tup e h.1, h.2⟩⟩
  · exact .inr ⟨a, xs, ev, hx, .inr (e.seq h)⟩
end
/-- alike, to a depth; None too -/
def AlX (K : PySem.W.Frag) (H : Hp) : Nat → V → V → Prop
  | 0, _, _ => False
  | n + 1, v, w => (∃ i, v = .int i ∧ w = .int i) ∨ (∃ x, v = .str x ∧ w = .str x ∧ x.length ≤ sizeLine) ∨ (v = .non ∧ w = .non) ∨ ∃ a b xs ys, v = .ref a ∧ w = .ref b ∧ (SqT K H a xs ∧ SqT K H b ys ∨ SqL K H a xs ∧ SqL K H b ys) ∧ xs.length = ys.length ∧ xs.length ≤ sizeLine ∧ ∀ (i : Nat) x y, xs[i]? = some x → ys[i]? = some y → AlX K H n x y
theorem AlX.mono {K : PySem.W.Frag} {H H' : Hp} (e : Same H H') : ∀ {n : Nat} {v w : V}, AlX K H n v w → AlX K H' n v w
  | 0, _, _, h => h.elim
  | n + 1, _, _, h => by
    rcases h with h | h | h | ⟨a, b, xs, ys, h1, h2, h3, h4, h5, h6⟩
    · exact .inl h
    · exact .inr (.inl h)
    · exact .inr (.inr (.inl h))
    · refine .inr (.inr (.inr ⟨a, b, xs, ys, h1, h2, ?_, h4, h5, fun i x y p q => AlX.mono e (h6 i x y p q)⟩))
      rcases h3 with ⟨p, q⟩ | ⟨p, q⟩
      · exact .inl ⟨Same.tup e p, Same.tup e q⟩
      · exact .inr ⟨e.seq p, e.seq q⟩
end L2.Px
namespace L2.Px
open PySem PySem.Spec PyProof.Rows StX TL ClX LamX
end L2.Px
namespace L2.Px
open PySem PySem.Spec PyProof.Rows StX TL ClX LamX
end L2.Px
namespace L2.Px
open PySem PySem.Spec PyProof.Rows StX TL ClX LamX
end L2.Px
namespace L2.Px
open PySem PySem.Spec PyProof.Rows StX TL ClX LamX
end L2.Px
namespace L2.Px
open PySem PySem.Spec PyProof.Rows StX TL ClX LamX
theorem ChAt.snoc {K : PySem.W.Frag} {H : Hp} {F p : Addr} {cs : List (Nat × Nat)} {n k c : Nat} {xs : List V} (h : ChAt K H F cs n) (hF : H F = some (.lst xs)) (c1 : k < n) (c2 : 97 ≤ c ∧ c ≤ 122) (hp : H p = some (.tup [.int (k : Nat), .str ⟨#[c]⟩])) :
    ChAt K (upd H F (.lst (xs ++ [.ref p]))) F (cs ++ [(k, c)]) n := by
  obtain ⟨xs', e, h1, h2⟩ := h
  rw [hF] at e
  cases e
  refine ⟨xs ++ [.ref p], upd_same, by simp [h1], fun i d hd => ?_⟩
  by_cases hi : i < cs.length
  · rw [List.getElem?_append_left hi] at hd
    obtain ⟨a1, a2, a3, T, b1, b2⟩ := h2 i d hd
    exact ⟨a1, a2, a3, T, by rw [List.getElem?_append_left (by omega)]; exact b1, by rw [upd_ne (fun z => by subst z; rw [hF] at b2; cases b2)]; exact b2⟩
  · have hi' : i = cs.length := by
      have := (List.getElem?_eq_some_iff.mp hd).1
      rw [List.length_append, List.length_singleton] at this
      omega
    subst hi'
    rw [List.getElem?_append_right (Nat.le_refl _), Nat.sub_self] at hd
    cases hd
    exact ⟨c1, c2.1, c2.2, p, by rw [← h1, List.getElem?_append_right (Nat.le_refl _), Nat.sub_self]; rfl, by rw [upd_ne (fun z => by subst z; rw [hF] at hp; cases hp)]; exact hp⟩
end L2.Px
namespace L2.Px
open PySem PySem.Spec PyProof.Rows StX TL ClX LamX
end L2.Px
namespace L2.Px
open PySem PySem.Spec PyProof.Rows StX TL ClX LamX
end L2.Px
set_option Elab.async false
set_option linter.all false
set_option maxRecDepth 100000
set_option maxHeartbeats 1000000
namespace L2.Px
open PySem PySem.Spec PyProof.Rows StX TL ClX LamX
end L2.Px
namespace L2.Px
open PySem PySem.Spec PyProof.Rows StX TL ClX LamX
section
variable {K : PySem.W.Frag} {H H1 : Hp} {T : List (Addr × Str)} {l : Addr} {xs : List V} {o : HO}
theorem codeO_nl {c : Addr} {q : Str} : CodeO c q ≠ .lst xs := fun z => by
  unfold CodeO at z
  cases z
theorem upd_keep {b : Addr} {u : HO} (h : H l = some (.lst xs)) (e : H b = some u) (n : u ≠ .lst xs) : upd H l o b = some u := by
  rw [upd_ne fun z => by subst z; rw [h] at e; exact n (Option.some.inj e).symm]; exact e
theorem tabs_upd (t : Tabs T H) (h : H l = some (.lst xs)) : Tabs T (upd H l o) := fun p hp =>
  let ⟨ps, a, b, d⟩ := t p hp
  ⟨ps, upd_keep h a (fun z => nomatch z), b, fun pos cv hc => let ⟨c, x, y⟩ := d pos cv hc; ⟨c, x, upd_keep h y codeO_nl⟩⟩
theorem Kx.updL (x : Kx T H H1) (n : H l = none) (e : H1 l = some (.lst xs)) : Kx T H (upd H1 l o) :=
  ⟨fun b u hn h => by rw [upd_ne (ne_of_none h n)]; exact x.keep b u hn h, fun t => tabs_upd (x.tabs t) e⟩
theorem IsLam.updL {X : Cx} {k : Nat} {t : XK → TE} {f : Addr} (h : IsLam X k t f H) (e : H l = some (.lst xs)) : IsLam X k t f (upd H l o) := by
  obtain ⟨p, b, sc, dV, bs, c', h0, h1, h2, h3, h4⟩ := h
  refine ⟨p, b, sc, dV, bs, c', h0, upd_keep e h1 (fun z => by unfold lamOb at z; cases z), upd_keep e h2 codeO_nl, ?_, h4⟩
  rcases h3 with h3 | ⟨T, v, y, a1, a2, a3, a4⟩
  · exact .inl h3
  · exact .inr ⟨T, v, y, a1, a2, upd_keep e a3 (fun z => nomatch z), a4⟩
end
end L2.Px
namespace L2.Px
open PySem PySem.Spec PyProof.Rows StX TL ClX LamX
end L2.Px
set_option Elab.async false
set_option linter.all false
set_option maxRecDepth 100000
set_option maxHeartbeats 2000000
namespace L2.Px
open PySem PySem.Spec PyProof.Rows PySem.Calls PySem.W
end L2.Px
set_option Elab.async false
set_option linter.all false
set_option maxRecDepth 100000
set_option maxHeartbeats 2000000
namespace L2.Px
open PySem PySem.Spec PyProof.Rows StX ClX
/-- the promise, nothing being raised -/
def nox (sp : Sp) : Sp := fun vs H Q _ => sp vs H Q NoX
section
variable {P : Program} {w : World} {K : PySem.W.Frag} {mg : Str → Option Value} {base : Heap} {CX : CXT} {k i j : Nat} {f C : Addr} {sp sp' : Sp} {x m : Str} {R : Addr → Prop}
theorem fnR_down (F : FnR P w K mg base (L2.CX P w) k f sp) : FnR P w K mg base CX0 k f (nox sp) := fun A outer s H us vs Q E hr e0 r h =>
  codeAny_mono (F A outer s H us vs Q NoX hr e0 r h) fun r s' hq => match r, hq with
    | .error e, ⟨_, _, _, _, _, _, _, _, _, _, _, _, q⟩ => q.elim
    | .ok (.ret u), hq => hq
    | .ok .next, hq => hq
    | .ok .brk, hq => hq
    | .ok .cont, hq => hq
theorem GOk.down (G : GOk P w K mg base (L2.CX P w) k x sp) : GOk P w K mg base CX0 k x (nox sp) := let ⟨f, F, a⟩ := G; ⟨f, fnR_down F, a⟩
theorem MOk.down (G : MOk P w K mg base (L2.CX P w) k C m sp) : MOk P w K mg base CX0 k C m (nox sp) := let ⟨f, F, a⟩ := G; ⟨f, fnR_down F, a⟩
theorem KOk.down (G : KOk P w K mg base (L2.CX P w) k C sp) : KOk P w K mg base CX0 k C (nox sp) := let ⟨f, F, a⟩ := G; ⟨f, fnR_down F, a⟩
theorem COk.down (G : COk P w K mg base (L2.CX P w) k C m sp) : COk P w K mg base CX0 k C m (nox sp) := let ⟨mc, p, f, F, a⟩ := G; ⟨mc, p, f, fnR_down F, a⟩
theorem XOk.down (G : XOk P w K mg base (L2.CX P w) k R sp) : XOk P w K mg base CX0 k R (nox sp) := let ⟨f, F, a⟩ := G; ⟨f, fnR_down F, a⟩
theorem KOk.mono (G : KOk P w K mg base CX j C sp) (h : j ≤ k) : KOk P w K mg base CX k C sp := let ⟨f, F, a⟩ := G; ⟨f, F.mono h, a⟩
theorem KOk.or (F : KOk P w K mg base CX0 i C sp) (G : KOk P w K mg base CX j C sp') (hi : i ≤ k) (hj : j ≤ k) : KOk P w K mg base CX k C (fun vs H Q E => sp vs H Q E ∨ sp' vs H Q E) := by
  obtain ⟨f, a1, a2⟩ := F.mono hi
  obtain ⟨g, b1, b2⟩ := G.mono hj
  have e := a2.init.symm.trans b2.init
  simp only [Option.some.injEq, Value.ref.injEq] at e
  subst e
  exact ⟨f, fnR_or (fnR_up a1) b1, a2⟩
theorem OOk.or (F : OOk P w K mg base CX0 i C sp) (G : OOk P w K mg base CX j C sp') (hi : i ≤ k) (hj : j ≤ k) : OOk P w K mg base CX k C (fun vs H Q E => sp vs H Q E ∨ sp' vs H Q E) := by
  obtain ⟨f, a1, a2⟩ := F
  obtain ⟨g, b1, b2⟩ := G
  have e := a2.at_.symm.trans b2.at_
  simp only [Option.some.injEq, Value.ref.injEq] at e
  subst e
  exact ⟨f, fnR_or (fnR_up (a1.mono hi)) (b1.mono hj), a2⟩
end
def DefB (K : PySem.W.Frag) (C : Addr) (m qual : Str) (st : Stmt) (ps : List Str) : Prop := ∃ f fd, Fun K m qual st f fd ∧ BMeth K C m f ∧ Binds K fd ps []
def BOk (P : Program) (w : World) (K : PySem.W.Frag) (mg : Str → Option Value) (base : Heap) (CX : CXT) (k : Nat) (C : Addr) (m : Str) (sp : Sp) : Prop := ∃ f, FnR P w K mg base CX k f sp ∧ BMeth K C m f
/-- m(self, .., *v) -/
def DefBS (K : PySem.W.Frag) (C : Addr) (m qual : Str) (st : Stmt) (ps : List Str) (pv : Str) : Prop := ∃ f fd, Fun K m qual st f fd ∧ BMeth K C m f ∧
  ∀ us rest : List Value, us.length = ps.length → bindArgs fd ⟨us ++ rest, []⟩ = (newTuple rest >>= fun t => pure (ps.zip us ++ [(pv, t)]))
section
variable {P : Program} {w : World} {K : PySem.W.Frag} {mg : Str → Option Value} {base : Heap} {CX : CXT} {k : Nat} {C : Addr} {ps : List Str} {sp : Sp} {m qual : Str} {st : Stmt}
theorem BOk.down (G : BOk P w K mg base (L2.CX P w) k C m sp) : BOk P w K mg base CX0 k C m (nox sp) := let ⟨f, F, a⟩ := G; ⟨f, fnR_down F, a⟩
theorem DefB.ok {N : List Str} (D : DefB K C m qual st ps) (S : FnScope N ps (defScope st)) (len : ∀ vs H Q E, sp vs H Q E → vs.length = ps.length)
    (hbody : ∀ (f : Addr) (cdv : Value) (A : Around) (outer : List Env) (s : Shared) (H : Hp) (vs : List V) (Q : VK) (E : XK), Room k (A.deeper (envOfC qual (defScope st) s.heap.objs.size f cdv)) → sp vs H Q E →
      ∃ t, PSs (cxOf CX0 P w K mg base N qual (defScope st) f cdv A outer s H E).nox (defBody st) t ∧ t { nx := fun _ H' => Q .non H', rt := Q } (start N vs) H) : BOk P w K mg base CX0 (k + 1) C m sp := by
  obtain ⟨f, fd, F, a, b⟩ := D
  exact ⟨f, FnOk.toR (F.ok S len fun cdv A outer s H vs Q E hr h => hbody f cdv A outer s H vs Q E hr h) b, a⟩
theorem DefBS.ok {N : List Str} {pv : Str} (D : DefBS K C m qual st ps pv) (S : FnScope N (ps ++ [pv]) (defScope st))
    (hbody : ∀ (f : Addr) (cdv : Value) (A : Around) (outer : List Env) (s : Shared) (H : Hp) (vs : List V) (Q : VK) (E : XK), Room k (A.deeper (envOfC qual (defScope st) s.heap.objs.size f cdv)) → sp vs H Q E →
      ∃ t, PSs (cxOf CX0 P w K mg base N qual (defScope st) f cdv A outer s H E).nox (defBody st) t ∧ t { nx := fun _ H' => Q .non H', rt := Q } (start N vs) H) : BOk P w K mg base CX0 (k + 1) C m (spStar ps.length sp) := by
  obtain ⟨f, fd, F, M, hb⟩ := D
  obtain ⟨oc, od, kV, doc, pm, an, cdv, ct, osl, rfl, lk, hcd⟩ := F.ex
  exact ⟨f, fn_star (sp := sp) lk hcd S cxUp_none hb fun A outer s H vs Q E hr h => let ⟨t, a, b⟩ := hbody f cdv A outer s H vs Q E hr h; ⟨t, a.nox, b⟩, M⟩
theorem DefB.okX {N : List Str} (D : DefB K C m qual st ps) (S : FnScope N ps (defScope st)) (len : ∀ vs H Q E, sp vs H Q E → vs.length = ps.length)
    (hbody : ∀ (f : Addr) (cdv : Value) (A : Around) (outer : List Env) (s : Shared) (H : Hp) (vs : List V) (Q : VK) (E : XK), Room k (A.deeper (envOfC qual (defScope st) s.heap.objs.size f cdv)) → sp vs H Q E →
      ∃ t, PSs (cxOf (L2.CX P w) P w K mg base N qual (defScope st) f cdv A outer s H E) (defBody st) t ∧ t { nx := fun _ H' => Q .non H', rt := Q } (start N vs) H) : BOk P w K mg base (L2.CX P w) (k + 1) C m sp := by
  obtain ⟨f, fd, F, a, b⟩ := D
  exact ⟨f, FnOk.toR (F.okX S len fun cdv A outer s H vs Q E hr h => hbody f cdv A outer s H vs Q E hr h) b, a⟩
theorem DefBS.okX {N : List Str} {pv : Str} (D : DefBS K C m qual st ps pv) (S : FnScope N (ps ++ [pv]) (defScope st))
    (hbody : ∀ (f : Addr) (cdv : Value) (A : Around) (outer : List Env) (s : Shared) (H : Hp) (vs : List V) (Q : VK) (E : XK), Room k (A.deeper (envOfC qual (defScope st) s.heap.objs.size f cdv)) → sp vs H Q E →
      ∃ t, PSs (cxOf (L2.CX P w) P w K mg base N qual (defScope st) f cdv A outer s H E) (defBody st) t ∧ t { nx := fun _ H' => Q .non H', rt := Q } (start N vs) H) : BOk P w K mg base (L2.CX P w) (k + 1) C m (spStar ps.length sp) := by
  obtain ⟨f, fd, F, M, hb⟩ := D
  obtain ⟨oc, od, kV, doc, pm, an, cdv, ct, osl, rfl, lk, hcd⟩ := F.ex
  exact ⟨f, fn_star (sp := sp) lk hcd S cxUp hb fun A outer s H vs Q E hr h => hbody f cdv A outer s H vs Q E hr h, M⟩
end
section
variable {X : Cx} {CX : CXT} {k : Nat} {C : Addr} {sp : Sp} {E : XK} {m : Str} {e o : Expr} {es : List Expr} {ta te : TE} {t : TA} {p pos apos : Pos} {σ : St} {H : Hp} {Q : VK}
/-- o.m( *e) -/
def tMS (K : PySem.W.Frag) (C : Addr) (m : Str) (sp : Sp) (E : XK) (ta te : TE) : TE := fun σ H Q => ta σ H fun x H1 => ∃ a, x = .ref a ∧ InsM H1 a C m ∧
  ∀ H1', Same H1 H1' → te σ H1' fun y H2 => Same H1' H2 ∧ ∃ b vs, y = .ref b ∧ (SqT K H2 b vs ∨ SqL K H2 b vs) ∧ sp (.ref a :: vs) H2 Q E
theorem pe_mS {K : PySem.W.Frag} (hk : X.K = K) (he : PE X o ta) (c : Cls K C) (G : BOk X.prog X.w K X.mg X.base CX k C m sp) (hr : Room k X.A) (hx : Passes CX X E) (ha : PE X e te)
    (hbase : attributeBase o m X.env (eval o X.env) = eval o X.env := by rfl) : PE X (.Call (.Attribute o m apos) [.Starred e p] [] pos) (tMS K C m sp E ta te) := by
  subst hk
  obtain ⟨g, F, b⟩ := G
  refine ⟨fun pins s σ H Q I h => ?_⟩
  refine starcall_of hbase (thn (he.run pins s σ H _ I h) fun u s1 ⟨x, H1, I1, rx, a, ex, ⟨dx, fs, ea, l⟩, q⟩ => ?_)
  subst ex
  obtain rfl : u = Value.ref a := rx
  refine getbound_ok I1 ea c b l fun q1 s2 hq1 I2 => ?_
  refine PySem.W.ks_call (P := PySem.W.MethP X.K q1 g (.ref a)) rfl (PySem.W.keeps_M b.fi) (PySem.W.ks_lone ?_)
  refine thn (ha.run pins s2 σ _ _ I2 (q _ (Same.new (Same.refl _) hq1))) fun v s3 ⟨y, H2, I3, ry, S2, t, vs, ey, ht, hsp⟩ => ?_
  subst ey
  obtain rfl : v = Value.ref t := ry
  have hm : H2 q1 = some (.met g a) := S2 _ _ upd_same
  refine star_any I3 ht fun us s4 I4 rv => ⟨met_P I4 hm, ?_⟩
  exact wpAny_call (PySem.W.method_call (met_P I4 hm).1 (run_fnR (us := Value.ref a :: us) (vs := V.ref a :: vs) F hr hx I4 (.cons rfl rv) hsp))
theorem rd_mS {K : PySem.W.Frag} (h : ta σ H fun x H1 => ∃ a, x = .ref a ∧ InsM H1 a C m ∧ ∀ H1', Same H1 H1' → te σ H1' fun y H2 => Same H1' H2 ∧ ∃ b vs, y = .ref b ∧ (SqT K H2 b vs ∨ SqL K H2 b vs) ∧ sp (.ref a :: vs) H2 Q E) : tMS K C m sp E ta te σ H Q := h
end
section
variable {X : Cx} {body : List Stmt} {f₀ : Stmt} {fs : List Stmt} {pos : Pos} {tb : WX → TS} {tf tfs : TS} {Wout : WX}
/-- try: body finally: suite, nothing is raised -/
def tFin0 (tb tf : TS) : TS := fun D σ H => tb { nx := fun σ1 H1 => tf D σ1 H1, rt := fun _ _ => False } σ H
theorem ps_fin0 {tb : TS} (hb : PSs X.nox body tb) (hfin : PSs X.nox (f₀ :: fs) tf) : PS X (.Try body [] [] (f₀ :: fs) pos) (tFin0 tb tf) := by
  refine ⟨fun pins s σ H D I h => ?_⟩
  refine wpAny_Try_finally (wpAny_mono (hb.run pins s σ H { nx := fun σ1 H1 => tf D σ1 H1, rt := fun _ _ => False } (I.wish _) h) (fun g s1 z => ?_) fun _ _ z => False.elim z)
  have z := z.unwish
  cases g with
  | ret u =>
    obtain ⟨_, _, _, _, _, q⟩ := z
    exact False.elim q
  | brk =>
    obtain ⟨_, _, _, q⟩ := z
    exact False.elim q
  | cont =>
    obtain ⟨_, _, _, q⟩ := z
    exact False.elim q
  | next =>
    obtain ⟨σ1, H1, J1, q1⟩ := z
    refine wpAny_execs_nil ?_
    refine wpAny_mono (hfin.run pins s1 σ1 H1 D (J1.wish _) q1) (fun g2 s2 q2 => ?_) fun _ _ e => False.elim e
    have q3 : SP X pins D g2 s2 := q2.unwish
    cases g2 <;> exact q3
theorem rd_fin0 {tb tf : TS} {nx ct bk : St → Hp → Prop} {rt : VK} {σ : St} {H : Hp} (h : tb { nx := fun σ1 H1 => tf ⟨nx, rt, bk, ct⟩ σ1 H1, rt := fun _ _ => False } σ H) : tFin0 tb tf ⟨nx, rt, bk, ct⟩ σ H := h
end
section
variable {X : Cx} {o : Expr} {to : TE} {f : Str} {pos : Pos} {σ : St} {H : Hp} {K : PySem.W.Frag}
def gFld (K : PySem.W.Frag) (f : Str) (to : TE) : TG := fun v σ H Q => to σ H fun x H2 => rSFld K f v x H2 (fun H3 => Q σ H3)
theorem pg_fld (hk : X.K = K) (ho : PE X o to) (ha : ∀ v, assign (.Attribute o f pos) X.env v = (do
      let ov ← holding [v] (eval o X.env)
      standAt pos.atName
      holding [v, ov] (setAttr ov f v)
      release [v, ov] []) := by intro _; rfl) : PG X (.Attribute o f pos) (gFld K f to) := by
  subst hk
  refine ⟨fun pins s σ H v u Q I r h => ?_⟩
  rw [ha]
  refine wpAny_bind (wpAny_holding (thn (ho.run pins s σ H _ I h) fun ov s1 ⟨x, H1, I1, r1, q1⟩ => ?_))
  obtain ⟨a, C, dx, fs, ex, ea, c, n, l, q⟩ := q1
  subst ex
  obtain rfl : ov = Value.ref a := r1
  refine wpAny_bind (wpAny_standAt (wpAny_bind (wpAny_holding (setattr_ok I1 ea c n l r fun s2 I2 => ?_))))
  exact wpAny_release ⟨σ, _, I2, q⟩
end
section
variable {K : PySem.W.Frag} {C f : Addr} {m qual pv : Str} {st : Stmt} {ps : List Str}
theorem defBS_mk (r : BMeth K C m f) (l : AtF K m qual st f) (k : PySem.W.keepIn K (.ref f) = true) (b : BFS m qual st ps pv) : DefBS K C m qual st ps pv := by
  obtain ⟨oc, od, kV, dc, pm, an, cd, ct, sl, l, c⟩ := l
  exact ⟨f, _, fun_mk (st := st) l c k, r, fun us rest hl => b kV dc pm an cd ct us rest hl⟩
end
section
variable {K : PySem.W.Frag} {CT CP CE C : Addr} {H H' H1 : Hp} {Q : VK} {E : XK} {a b d e x dx : Addr} {xs ys : List V} {z : Str} {σ : St} {td ty tx : TE} {w : World} {f : Str} {y v : V} {fs : List (Str × V)} {k : Hp → Prop}
theorem rd_edset (e : H x = some (.ins C dx fs)) (c : Cls K C) (nn : NoAttr K C f) (l : fs.length < 1000) (h : ∀ H', But x H H' → H' x = some (.ins C dx (putF f y fs)) → k H') : rSFld K f y (.ref x) H k :=
  rd_sfld_at e c nn l (h _ (But.at But.refl) upd_same)
theorem fl6 {a b c d e f : Str} {va vb vc vd ve vf : V} : (putF f vf (putF e ve (putF d vd (putF c vc (putF b vb (putF a va [])))))).length < 1000 := Nat.lt_of_le_of_lt (putF_len (k := 5) (putF_len (k := 4) (putF_len (k := 3) (putF_len (k := 2) (putF_len (k := 1) (putF_len (k := 0) (Nat.le_refl 0))))))) (by decide)
theorem rd_tupleL (h : SqL K H a xs) (q : ∀ l H', Same H H' → H l = none → H' l = some (.tup xs) → Q (.ref l) H') : rTupA K [.ref a] H Q := rd_tuple_lst h fun l hl => q l _ (Same.new (Same.refl _) hl) hl upd_same
end
section
variable {K : PySem.W.Frag} {CIS CTL CIP CIL CT CP CE C : Addr} {H H' H1 : Hp} {Q : VK} {E : XK} {e : Addr} {xs ms rs : List V} {ss : List Stp} {ds : List Ent} {p l v : V} {A B : Sp}
theorem AddOut.same (S : Same H H1) (h : AddOut K CIS CTL CT CP CE H e ss ds xs Q E) : AddOut K CIS CTL CT CP CE H1 e ss ds xs Q E := by
  rcases h with ⟨s, h1, h2, h3, h4, k⟩ | ⟨h1, k⟩ | ⟨s, h1, h2, h3, h4, k⟩
  · exact .inl ⟨s, h1, h2, h3, h4, fun H' b ed => k H' ((But.same S).trans b) ed⟩
  · exact .inr (.inl ⟨h1, fun d H' S' => k d H' (Same.trans S S')⟩)
  · exact .inr (.inr ⟨s, h1, h2, h3, h4, fun H' S' => k H' (Same.trans S S')⟩)
theorem RetOut.same (S : Same H H1) (h : RetOut K CIP CIL CT CP CE H e ss ds p l Q E) : RetOut K CIP CIL CT CP CE H1 e ss ds p l Q E := by
  rcases h with ⟨i, c, h1, h2, h3, h4, h5, k⟩ | ⟨h1, k⟩ | ⟨h1, h2, k⟩
  · exact .inl ⟨i, c, h1, h2, h3, h4, h5, fun H' b ed => k H' ((But.same S).trans b) ed⟩
  · exact .inr (.inl ⟨h1, fun H' S' => k H' (Same.trans S S')⟩)
  · exact .inr (.inr ⟨h1, h2, fun H' S' => k H' (Same.trans S S')⟩)
theorem ExOut.same (S : Same H H1) (h : ExOut K CIS CTL CIP CIL CT CP CE H e ss ds xs Q E) : ExOut K CIS CTL CIP CIL CT CP CE H1 e ss ds xs Q E := by
  unfold ExOut at h ⊢
  split
  · exact RetOut.same S h
  · rename_i hn
    split at h
    · exact absurd rfl (hn _ _ _)
    · exact AddOut.same S h
end
end L2.Px
set_option Elab.async false
set_option linter.all false
set_option maxRecDepth 100000
set_option maxHeartbeats 1000000
namespace L2.Px
open PySem PySem.Spec PyProof.Rows StX ClX
section
variable {K : PySem.W.Frag} {CT CP CE : Addr} {H H1 : Hp} {Q : VK} {E : XK} {rs ms : List V} {ss : List Stp} {os : List Op}
theorem rd_mkEd (hst : StepsAt K H rs ss) (ok : okFrom 0 ss) (few : ss.length ≤ 30) (q : ∀ x Hc, H x = none → Same H Hc → EdAt K CT CP CE Hc x ss [] [] → Q (.ref x) Hc) :
    rMk CE (spStar 1 (sp_Editor_init K CT CP CE)) E rs H Q := by
  intro x dx nx nd ne
  have S1 : Same H (upd (upd H dx (.own x)) x (.ins CE dx [])) := Same.mut (Same.mut (Same.refl _) nd) nx
  refine ⟨[.ref x], rs, rfl, rfl, by rw [hst.1]; exact Nat.le_trans few (Nat.le_of_lt line30), fun p np => ?_⟩
  have S2 := Same.new (o := .tup rs) S1 np
  exact ⟨x, dx, p, rs, ss, rfl, lk_new np upd_same, SqT.of upd_same, hst.mono S2, ok, few, fun H' k T => ⟨rfl, q x H' nx (fun b o e => k b o (ne_of_none e nx) (S2 _ _ e)) T⟩⟩
theorem OpsAt.mono (h : OpsAt K H ms os) (S : Same H H1) : OpsAt K H1 ms os := ⟨h.1, fun j o q => let ⟨v, a, b, c, d⟩ := h.2 j o q; ⟨v, a, b, c, Same.tup S d⟩⟩
end
end L2.Px
set_option Elab.async false
set_option linter.all false
set_option maxRecDepth 100000
set_option maxHeartbeats 2000000
namespace L2.Px
open PySem PySem.Spec PyProof.Rows StX ClX
/-- as compPost; the block's frame is known -/
def compPostF (M : Model) (A : Around) (E : Value → Shared → Prop) (use : Option (Value → Sem Unit)) (Q : Value → Shared → Prop) (acc : Value) (C : Addr) (F : Option Addr) (r : Result) (s' : Shared) : Prop :=
  match r with
  | .ok _ => compPost M A E use Q acc C (.ok .next) s'
  | .error x => ∃ m, s'.heap.Ns C m ∧ ∀ h', Heap.SameBut C s'.heap h' → ∀ ce : Env, ce.locals = C → ce.frame = F → wpAny M A (passOn "comprehension.variables-let-go" x ce : Sem Value) (fun _ _ => False) E { s' with heap := h' }
section
variable {M : Model} {A : Around} {E : Value → Shared → Prop} {s : Shared} {env : Env}
theorem comprehension_freeF {e : Expr} {scope : Scope} {pos : Pos} {newAcc first : Sem Value} {g : Comprehension} {gs : List Comprehension} {cl : List (Str × Addr)} {use : Option (Value → Sem Unit)} {Q : Value → Shared → Prop}
    (hcl : clausesOf e = g :: gs) (hs : ∀ x, foldedSetIterable g.iter env x = pure x) (hclos : closureFor scope env = pure cl)
    (hkind : scope.kind = .function) (hnames : ∀ x ∈ scope.names, x.2 = .local → scope.names.lookup x.1 = some .local)
    (h : wpAny M A first (fun x s₁ => wpAny M A (pyIter x) (fun it s₂ => wpAny M A newAcc (fun acc s₃ =>
      wpAny M A (newFunctionEnv scope env.globals cl [] env.qual none .none (some env)) (fun cenv s₄ =>
        codeAny M A (.compStart e 0 it acc { cenv with scope := relabel scope env }) (compPostF M A E use Q acc cenv.locals cenv.frame) s₄) E s₃) E s₂) E s₁) E s) :
    wpAny M A (comprehension e scope env pos newAcc false first use) Q E s := by
  unfold comprehension
  rw [hclos, hcl]
  refine wpAny_bind (wpAny_mono h (fun x s₁ h₁ => wpAny_bind (wpAny_standAt (wpAny_bind (wpAny_of_eq (hs x) (wpAny_bind (wpAny_holding (wpAny_mono h₁ (fun it s₂ h₂ =>
    wpAny_standIf (wpAny_bind (wpAny_mono h₂ (fun acc s₃ h₃ => wpAny_bind (wpAny_pure (wpAny_bind (wpAny_mono h₃ (fun cenv s₄ h₄ => ?_) fun _ _ h' => h')))) fun _ _ h' => h')))
      fun _ _ h' => h'))))))) fun _ _ h' => h')
  dsimp only
  have hv : ∀ x ∈ (scope.names.filter fun x => (x.2 == .local || x.2 == .cell) && x.1 != (".0" : Str)).reverse, x.2 = .local →
      Env.kindOf { cenv with scope := relabel scope env } x.1 = some .local := fun x hx hl => lookup_relabel_local (hnames x (List.mem_filter.mp (List.mem_reverse.mp hx)).1 hl)
  have hv' : ∀ x ∈ (scope.names.filter fun x => (x.2 == .local || x.2 == .cell) && x.1 != (".0" : Str)).reverse.drop 1 ++ (scope.names.filter fun x => (x.2 == .local || x.2 == .cell) && x.1 != (".0" : Str)).reverse.take 1,
      x.2 = .local → Env.kindOf { cenv with scope := relabel scope env } x.1 = some .local := fun x hx hl => by
    rcases List.mem_append.mp hx with h1 | h1
    · exact hv x (List.mem_of_mem_drop h1) hl
    · exact hv x (List.mem_of_mem_take h1) hl
  refine wpAny_holding (wpAny_bind (wpAny_attempt (wpAny_holding (wpAny_run (codeAny_mono h₄ fun r s' hr => ?_)))))
  cases r with
  | ok f =>
    have hr : compPost M A E use Q acc cenv.locals (.ok .next) s' := hr
    cases use with
    | none =>
      obtain ⟨m, hn, hr⟩ := hr
      exact wpAny_bind (wpAny_holding (wpAny_comp_letGo (cenv := { cenv with scope := relabel scope env }) hkind _ s' m hv hn fun h' m' _ hs' => wpAny_pure (hr h' hs')))
    | some u =>
      refine wpAny_bind (wpAny_rule (wpAny_bind (wpAny_holding (wpAny_mono hr (fun _ s'' hr' => ?_) fun _ _ h' => h'))))
      obtain ⟨m, hn, hr'⟩ := hr'
      exact wpAny_bind (wpAny_comp_letGo (cenv := { cenv with scope := relabel scope env }) hkind _ s'' m hv' hn fun h' m' _ hs' => wpAny_pure (hr' h' hs'))
  | error x =>
    obtain ⟨m, hn, hr⟩ := hr
    exact wpAny_bind (wpAny_holding (wpAny_comp_letGo (cenv := { cenv with scope := relabel scope env }) hkind _ s' m hv hn fun h' m' _ hs' => wpAny_mono (hr h' hs' { cenv with scope := relabel scope env } rfl rfl) (fun _ _ f => f.elim) fun _ _ y => y))
theorem noteFrame_eq {u : Value} {e1 e2 : Env} (h : e1.frame = e2.frame) : noteFrame u e1 = noteFrame u e2 := by
  unfold noteFrame PySem.frameOf
  rw [h]
end
/-- a call within the block let an error out -/
def XB (X : Cx) (E : XK) (s0 : Shared) (H0 : Hp) (scope : Scope) (ce : Env) (fp : List Addr) : Value → Shared → Prop := fun u s' => ∃ pins σ H s, Inv (X.blk s0 H0 scope ce fp) pins σ H s ∧ L2.CX X.prog X.w X.stack H s E u s'
abbrev Cx.blkR (X : Cx) (E : XK) (s : Shared) (H : Hp) (scope : Scope) (ce : Env) (fp : List Addr) : Cx := (X.blk s H scope ce fp).wish (XB X E s H scope ce fp)
section
variable {X : Cx} {E : XK}
theorem passB {s0 : Shared} {H0 : Hp} {scope : Scope} {ce : Env} {fp : List Addr} : Passes (L2.CX X.prog X.w) (Cx.blkR X E s0 H0 scope ce fp) E := fun pins σ H s e s' I c => ⟨pins, σ, H, s, I.unwish, c⟩
theorem hide1 {h : Heap} {c b : Addr} {o : Obj} (e : h.get? b = some o) (n : b ≠ c) : (PySem.W.hideAll h [c]).get? b = some o := PySem.W.hideAll_get _ e (by simpa using n)
theorem hide1_ne {h : Heap} {c b : Addr} {o : Obj} (e : (PySem.W.hideAll h [c]).get? b = some o) : b ≠ c := fun z => by
  subst z
  rw [PySem.W.hideAll_none _ (by simp)] at e; cases e
theorem HOk.hide {P : Program} {w : World} {H : Hp} {h : Heap} {c : Addr} (ok : HOk P w H h) (n : H c = none) : HOk P w H (PySem.W.hideAll h [c]) := fun b o q =>
  (ok b o q).stay (fun d u hd r => hide1 r fun z => by
    subst z
    rcases hd with hd | hd
    · rw [hd, q] at n; cases n
    · rw [n] at hd; cases hd) (fun _ r => r) fun _ _ r => r
/-- as XE.of_call, with the state without the exception told -/
theorem of_callB {pins : List (Addr × Obj)} {σ : St} {H H' : Hp} {s s' : Shared} {a : Addr} {B : Heap} {cls : Value} {d : Option Addr} (I : Inv X pins σ H s) (fl : HandSPX.FlyingZ B X.stack a (Zc cls d) s'.heap) (hok : HOk X.prog X.w H' B) (ub : UB (frs X.stack) H H' s.heap B s'.heap) (ag : AllBare s'.gens) :
    ∃ sI : Shared, Inv X pins σ H' sI ∧ (∀ b o, sI.heap.get? b = some o → b ∉ frs X.stack → B.get? b = some o) ∧ (∀ b o, sI.heap.get? b = some o → s'.heap.get? b = some o ∧ ((B.get? b).isSome = true ∨ b ∈ frs X.stack)) ∧ sI.os = s.os := by
  obtain ⟨G, g1, g2⟩ := restrict s'.heap fun b => (B.get? b).isSome || decide (b ∈ frs X.stack)
  have st : B.StaysIn s'.heap := fl.1
  have gB : ∀ b o, B.get? b = some o → G.get? b = some o := fun b o e => by
    rw [g1 b (by simp [e])]
    exact st b o e
  have gF : ∀ b, b ∈ frs X.stack → G.get? b = s'.heap.get? b := fun b hb => g1 b (by simp [hb])
  have og : ∀ b o, G.get? b = some o → s'.heap.get? b = some o ∧ ((B.get? b).isSome = true ∨ b ∈ frs X.stack) := fun b o e => by
    cases q : ((B.get? b).isSome || decide (b ∈ frs X.stack)) with
    | false => rw [g2 b q] at e; cases e
    | true =>
      rw [g1 b q] at e
      exact ⟨e, by simpa [Bool.or_eq_true] using q⟩
  refine ⟨{ s with heap := G, gens := s'.gens, drawn := s'.drawn, toks := s'.toks }, ?_, fun b o e hb => ?_, og, rfl⟩
  · refine I.call (ch := []) ⟨fun b o e n hb _ => gB b o (ub.keep b o e n hb), fun b o e n hb _ => ?_, fun b o e n _ => ub.free b o e n, fun b o e _ => ?_, ub.tups, ub.frzs, ub.tbls⟩ (hok.kept gB) ag (fun _ z => nomatch z)
    · obtain ⟨sl, q⟩ := ub.slot b o e hb
      exact ⟨sl, by rw [gF b hb]; exact q⟩
    · by_cases hb : b ∈ frs X.stack
      · obtain ⟨sl, q⟩ := ub.slot b o e hb
        exact ⟨_, by rw [gF b hb]; exact q⟩
      · obtain ⟨o', q⟩ := ub.there b o e hb
        exact ⟨o', gB b o' q⟩
  · obtain ⟨e', h⟩ := og b o e
    rcases h with h | h
    · obtain ⟨o', q⟩ := Option.isSome_iff_exists.mp h
      have z := st b o' q
      rw [e'] at z; cases z
      exact q
    · exact absurd h hb
/-- frames stand, all but C kept -/
theorem frames_keep {B B' h1 h2 : Heap} {C : Addr} (k : ∀ b o, b ≠ C → h1.get? b = some o → h2.get? b = some o) (no : ∀ b, B.get? b = none → B'.get? b = none) : ∀ {l : List Env}, C ∉ frs l → h1.FunFrames B l → h2.FunFrames B' l
  | [], _, _ => trivial
  | env :: l, hC, h => by
    obtain ⟨hk, ⟨L, o, hf, hn, ho, hd⟩, hr⟩ := h
    have e : frs (env :: l) = L :: frs l := by
      show (env :: l).filterMap (·.frame) = _
      rw [List.filterMap_cons, hf]; rfl
    rw [e] at hC
    simp only [List.mem_cons, not_or] at hC
    exact ⟨hk, ⟨L, o, hf, no L hn, k L o (fun z => hC.1 z.symm) ho, hd⟩, frames_keep k no hC.2 hr⟩
/-- an error leaves the block -/
theorem blk_out {pins0 : List (Addr × Obj)} {σ0 : St} {HB : Hp} {sB s5 : Shared} {scope : Scope} {ce : Env} {fp : List Addr} {use : Option (Value → Sem Unit)} {Qf : Value → Shared → Prop} {acc u : Value} {C : Addr}
    (tk : Takes X (fun cls d _ H => E cls d H)) (hst : X.stack = X.env :: X.outer) (hfr : X.env.frame = some X.env.locals) (IB : Inv X pins0 σ0 HB sB) (fpB : ∀ b ∈ fp, FpOk X pins0 HB b) (cL : ce.locals = C) (cC : C = sB.heap.objs.size) (cF : ce.frame = X.env.frame)
    (xb : XB X E sB HB scope ce fp u s5) : notedBy (model X.prog X.w) X.A ce (fun e s' => compPostF (model X.prog X.w) X.A X.xe use Qf acc C X.env.frame (.error e) s') u s5 := by
  obtain ⟨pins, σ, H, s, Ib, a, Bg, H', cls, d, rfl, fl, hok, ub, na, os, ag, hE⟩ := xb
  have nC : H C = none := cL ▸ Ib.free
  obtain ⟨m, hn, _⟩ := Ib.loc
  have hn : s.heap.Ns C m := cL ▸ hn
  obtain ⟨oC, es, ep, hoC, hdC, hkC⟩ := hn
  have ff := IB.fpOk (Nat.le_of_eq cC.symm) nC
  have nfr : C ∉ frs X.stack := fun z => (List.mem_cons.mp (IB.stkSub C z)).elim ff.2.1 ff.2.2.1
  have bC : Bg.get? C = some oC := ub.keep C oC hoC nC nfr
  have nC' : H' C = none := ub.free C oC hoC nC
  have c5 : s5.heap.get? C = some oC := fl.1 C oC bC
  have hfs : X.A.frames = some (X.env :: X.outer) := by rw [IB.ok.frames, hst]
  -- the def's state at the call, the block's names put away
  have unh : Un (frs X.stack) fp HB H sB.heap (PySem.W.hideAll s.heap [C]) := by
    have ne : ∀ b o, sB.heap.get? b = some o → b ≠ C := fun b o e => by rw [cC]; exact Nat.ne_of_lt (Heap.lt_size e)
    refine ⟨fun b o e n hb hx => hide1 (Ib.base.keep b o e n hb hx) (ne b o e), fun b o e n hb hx => ?_, Ib.base.free, fun b o e hx => ?_, Ib.base.tups, Ib.base.frzs, Ib.base.tbls⟩
    · obtain ⟨sl, q⟩ := Ib.base.slot b o e n hb hx
      exact ⟨sl, hide1 q (ne b o e)⟩
    · obtain ⟨o', q⟩ := Ib.base.there b o e hx
      exact ⟨o', hide1 q (ne b o e)⟩
  have IX : Inv X pins0 σ0 H { s with heap := PySem.W.hideAll s.heap [C] } := IB.call' (ch := fp) Ib.os unh (HOk.hide Ib.hok nC) Ib.bare fun b hb => ⟨(fpB b hb).2.2.2.1, (fpB b hb).2.1, (fpB b hb).2.2.2.2.1, (fpB b hb).2.2.2.2.2⟩
  have stB : (PySem.W.hideAll Bg [C]).StaysIn Bg := fun b o e => PySem.W.of_hideAll _ e
  have fl' : HandSPX.FlyingZ (PySem.W.hideAll Bg [C]) X.stack a (Zc cls d) s5.heap := by
    obtain ⟨k1, k2, k3, oe, vs, T, oT, ts, he, hz, hd, h1, hnT, hr⟩ := fl
    have no : ∀ b, Bg.get? b = none → (PySem.W.hideAll Bg [C]).get? b = none := fun b hb => by
      cases q : (PySem.W.hideAll Bg [C]).get? b with
      | none => rfl
      | some o => have z := PySem.W.of_hideAll _ q; rw [hb] at z; cases z
    exact ⟨fun b o e => k1 b o (stB b o e), no _ k2, funFrames_none k3 fun b hb => no b (by
      obtain ⟨hq, _⟩ := k3.mem hb
      exact hq), oe, vs, T, oT, ts, he, hz, hd, h1, no _ hnT, hr⟩
  have ub' : UB (frs X.stack) H H' (PySem.W.hideAll s.heap [C]) (PySem.W.hideAll Bg [C]) s5.heap := by
    refine ⟨fun b o e n hb => hide1 (ub.keep b o (PySem.W.of_hideAll _ e) n hb) (hide1_ne e), fun b o e hb => ub.slot b o (PySem.W.of_hideAll _ e) hb, fun b o e n => ub.free b o (PySem.W.of_hideAll _ e) n, fun b o e hb => ?_, ub.tups, ub.frzs, ub.tbls⟩
    obtain ⟨o', q⟩ := ub.there b o (PySem.W.of_hideAll _ e) hb
    exact ⟨o', hide1 q (hide1_ne e)⟩
  obtain ⟨sI, II, nb, og, osI⟩ := of_callB IX fl' (HOk.hide hok nC') ub' ag
  have sIC : ∀ b o, sI.heap.get? b = some o → b ≠ C := fun b o e z => by
    subst z
    rcases (og b o e).2 with z | z
    · rw [PySem.W.hideAll_none _ (by simp)] at z; cases z
    · exact nfr z
  show wpAny (model X.prog X.w) X.A (noteFrame (.ref a) ce) _ _ s5
  rw [noteFrame_eq (e2 := X.env) cF]
  refine HandSPX.looks_onZ Zc.steady hfs hfr (hst ▸ fl) fun h1 held up1 => ?_
  obtain ⟨sl, c1⟩ := up1 C oC c5 fun vs q => by rw [hdC] at q; cases q
  refine ⟨m, ⟨_, es, ep, c1, hdC, hkC⟩, fun h2 sb ce' e1 e2 => ?_⟩
  -- the block's names are gone: all else stands
  have keep2 : ∀ b o, b ≠ C → h1.get? b = some o → h2.get? b = some o := fun b o n e => (sb.2 b n).trans e
  have held2 : HandSPX.HeldZ (PySem.W.hideAll Bg [C]) (X.env :: X.outer) a (Zc cls d) X.env.locals h2 := by
    obtain ⟨k1, k2, k3, oe, vs, T, oT, ts, he, hz, hd, hh1, hnT, hTe, hT, hr⟩ := held
    have no : ∀ b, Bg.get? b = none → (PySem.W.hideAll Bg [C]).get? b = none := fun b hb => by
      cases q : (PySem.W.hideAll Bg [C]).get? b with
      | none => rfl
      | some o => have z := PySem.W.of_hideAll _ q; rw [hb] at z; cases z
    have naC : a ≠ C := fun z => by rw [z, bC] at k2; cases k2
    have nTC : T ≠ C := fun z => by rw [z, bC] at hnT; cases hnT
    refine ⟨fun b o e => keep2 b o (hide1_ne e) (k1 b o (stB b o e)), no _ k2, ?_, oe, vs, T, oT, ts, keep2 _ _ naC he, hz, hd, hh1, no _ hnT, hTe, keep2 _ _ nTC hT, hr⟩
    exact frames_keep (B := Bg) (C := C) (h1 := h1) keep2 no (l := X.env :: X.outer) (by rw [← hst]; exact nfr) k3
  obtain ⟨k1, k2, k3, oe, vs, T, oT, ts, he, hz, hd, hh1, hrest⟩ := id held2
  unfold PySem.passOn
  refine wpAny_bind (wpAny_field he hd hh1 ?_)
  rw [if_neg (show ¬ ((Value.ref T == Value.none) = true) from by simp)]
  have fin : wpAny (model X.prog X.w) X.A (setFlight (.ref a) ce'.frame) (fun _ s4 => wpAny (model X.prog X.w) X.A (throw (.ref a) : Sem Value) (fun _ _ => False) X.xe s4) X.xe { s5 with heap := h2 } := by
    rw [e2, hfr]
    refine HandSPX.setFlight_onZ held2 fun h3 held3 up3 => wpAny_throw (tk _ _ ?_)
    refine ⟨a, PySem.W.hideAll Bg [C], sI, pins0, σ0, H', cls, d, rfl, II, nb, fun b o e nf => ?_, .inr (.inr (by rw [hst]; exact held3)), na, os.trans osI.symm, ag, hE⟩
    obtain ⟨sl1, q1⟩ := up1 b o (og b o e).1 nf
    have q2 := keep2 b _ (sIC b o e) q1
    obtain ⟨sl3, q3⟩ := up3 b _ q2 nf
    exact ⟨sl3, q3⟩
  first
    | exact wpAny_bind (wpAny_pure (wpAny_bind fin))
    | exact wpAny_bind fin
/-- the block's parts, told of their own contexts -/
def BlkR (X : Cx) (E : XK) (scope : Scope) (tg elt : Expr) (ifs : List Expr) (g : TG) (tt : TT) (te : TE) : Prop := ∀ (s : Shared) (H : Hp) (C : Addr) (cl : List (Str × Addr)) (fp : List Addr),
  PG (Cx.blkR X E s H scope (compEnvC scope cl C X.env) fp) tg g ∧ PTs (Cx.blkR X E s H scope (compEnvC scope cl C X.env) fp) ifs tt ∧ PE (Cx.blkR X E s H scope (compEnvC scope cl C X.env) fp) elt te
theorem lc_coreR {pins : List (Addr × Obj)} {s : Shared} {σ : St} {H : Hp} {Q : VK} {elt tg iter : Expr} {ifs : List Expr} {scope : Scope} {own : List (Str × Nat)} {pos pos' : Pos} {wi : TI} {g : TG} {tt : TT} {te : TE} {use : Option (Value → Sem Unit)} {Qf : Value → Shared → Prop}
    (tk : Takes X (fun cls d _ H => E cls d H)) (hst : X.stack = X.env :: X.outer) (hfr : X.env.frame = some X.env.locals)
    (hc : X.calm = true) (hN : X.N.Nodup) (I0 : Inv X pins σ H s) (hi : PI X tg iter wi) (ok : BlkOk X.N X.env.scope scope own)
    (hb : BlkR X E scope tg elt ifs g tt te) (hs : ∀ x, foldedSetIterable iter X.env x = pure x)
    (ask : tLc wi g tt te (own.map (·.2)) σ H Q)
    (hRR : ∀ D C s' m H', Inv X pins σ H' s' → Q (.ref D) H' → s'.heap.Ns C m → FpOk X pins H' C → compPost (model X.prog X.w) X.A X.xe use Qf (.ref D) C (.ok .next) s') :
    wpAny (model X.prog X.w) X.A (comprehension (.ListComp elt [⟨tg, iter, ifs, 0⟩] scope pos) scope X.env pos' (newList []) false (eval iter X.env) use) Qf X.xe s := by
  have cap : ∀ y ∈ scope.names, y.2 = .free → ∃ c, X.env.cells.lookup y.1 = some c := fun y hy z => (ok.free y hy z).elim (fun k => I0.ok.has _ (.inl k)) fun k => I0.ok.has _ (.inr k)
  refine comprehension_freeF (use := use) rfl hs (closure_ok cap) ok.kind (fun y hy z => by rw [ok.uniq y hy, z]) (thn (hi.run pins s σ H _ I0 ask) fun _ _ q => thn q fun _ sA ⟨it, fp, tn, J, HA, eit, IA, turn, stA, fpA, ask1⟩ => ?_)
  subst eit
  refine wpAny_newObj_type (newEnv_comp ?_) (by show 0 ≤ sizeLine; decide)
  generalize dD : sA.heap.objs.size = D
  have freshD : HA D = none := IA.hok.fresh (Nat.le_of_eq dD)
  obtain ⟨W, ⟨n0, start0⟩, each⟩ := ask1 D freshD
  generalize dB : ({ sA with heap := sA.heap.push { cls := .type "list", data := .seq ([] : List Value).toArray } } : Shared) = sB
  have heB : sB.heap = sA.heap.push { cls := .type "list", data := .seq ([] : List Value).toArray } := by rw [← dB]
  have IB : Inv X pins σ (upd HA D (.lst [])) sB := by
    rw [← dB]
    exact IA.laid (t' := sA.toks) (fun b o z => Heap.get?_push_of_some _ z) (Nat.le_of_eq dD) ⟨Nat.zero_le _, [], 0, .nil, by rw [← dD]; exact Heap.get?_push_size _ rfl⟩
  have old : ∀ b ∈ fp, b < sA.heap.objs.size := fun b hb => let ⟨_, z, _⟩ := turn.obj _ _ stA b hb; Heap.lt_size z
  generalize dH : upd HA D (.lst []) = HB at IB start0
  have nB : ∀ b ∈ fp, HB b = none := fun b hb => by rw [← dH, upd_ne (by rw [← dD]; exact Nat.ne_of_lt (old b hb))]; exact (fpA b hb).1
  have fpB : ∀ b ∈ fp, FpOk X pins HB b ∧ b < sB.heap.objs.size := fun b hb => ⟨⟨nB b hb, (fpA b hb).2⟩, by rw [heB, Heap.size_push]; exact Nat.lt_succ_of_lt (old b hb)⟩
  have stB : tn 0 sB.heap := turn.keep _ _ _ stA fun b _ o z => by rw [heB]; exact Heap.get?_push_of_some _ z
  obtain ⟨pg, pt, pe⟩ := hb sB HB sB.heap.objs.size (cellsFrom (sB.heap.objs.size + 1) scope.names (cloFrom X.env.cells scope.names [])) fp
  have IC := block_start IB ok hN fpB
  show codeAny _ _ (.compStart (.ListComp elt [⟨tg, iter, ifs, 0⟩] scope pos) 0 (.ref it) (.ref D) (compEnvC scope (cellsFrom (sB.heap.objs.size + 1) scope.names (cloFrom X.env.cells scope.names [])) sB.heap.objs.size X.env)) (compPostF (model X.prog X.w) X.A X.xe use Qf (.ref D) sB.heap.objs.size X.env.frame) _
  generalize dE : compEnvC scope (cellsFrom (sB.heap.objs.size + 1) scope.names (cloFrom X.env.cells scope.names [])) sB.heap.objs.size X.env = ce at IC pg pt pe ⊢
  have ceL : ce.locals = sB.heap.objs.size := by rw [← dE]; rfl
  have ceF : ce.frame = X.env.frame := by rw [← dE]; rfl
  generalize dC : ({ sB with heap := pushCells (sB.heap.push { cls := .type "dict", data := .dict #[] }) scope.names } : Shared) = sC at IC ⊢
  have stC : tn 0 sC.heap := turn.keep _ _ _ stB fun b _ o z => by rw [← dC]; exact pushCells_keeps _ _ _ _ (Heap.get?_push_of_some _ z)
  have fpAt : ∀ {σ' : St} {H' : Hp} {s' : Shared}, Inv (X.blk sB HB scope ce fp) [] σ' H' s' → (∀ b ∈ fp, H' b = none) → ∀ b ∈ fp, FpOk (X.blk sB HB scope ce fp) [] H' b := fun {σ' H' s'} I' hn b hb =>
    ⟨hn b hb, (I'.ok.exf b hb).1, I'.ok.exfs b hb, .inl hb, fun y c z => (I'.ok.exf b hb).2 y c z, fun q hq => absurd (show q ∈ ([] : List (Addr × Obj)) ++ [] from hq) (by simp)⟩
  have sim : ∀ {α : Type} {m : Sem α} {Qa Qb : α → Shared → Prop} {Ex : Value → Shared → Prop} {s' : Shared}, wpAny (model X.prog X.w) X.A m Qa (fun _ _ => False) s' → (∀ v z, Qa v z → Qb v z) → wpAny (model X.prog X.w) X.A m Qb Ex s' := fun h1 h2 => wpAny_mono h1 h2 fun _ _ z => False.elim z
  have outB : ∀ u s', XB X E sB HB scope ce fp u s' → notedBy (model X.prog X.w) X.A ce (fun e s' => compPostF (model X.prog X.w) X.A X.xe use Qf (.ref D) sB.heap.objs.size X.env.frame (.error e) s') u s' := fun u s' xb =>
    blk_out tk hst hfr IB (fun b hb => (fpB b hb).1) ceL rfl ceF xb
  have simR : ∀ {α : Type} {m : Sem α} {Qa Qb : α → Shared → Prop} {s' : Shared}, wpAny (model X.prog X.w) X.A m Qa (XB X E sB HB scope ce fp) s' → (∀ v z, Qa v z → Qb v z) → wpAny (model X.prog X.w) X.A m Qb (notedBy (model X.prog X.w) X.A ce fun e s' => compPostF (model X.prog X.w) X.A X.xe use Qf (.ref D) sB.heap.objs.size X.env.frame (.error e) s') s' := fun h1 h2 => wpAny_mono h1 h2 outB
  let Sta : Nat → Nat → Shared → Prop := fun i n s' => ∃ H', Inv (X.blk sB HB scope ce fp) [] (wipe σ (own.map (·.2))) H' s' ∧ tn i s'.heap ∧ (∀ b ∈ fp, H' b = none) ∧ W i n H'
  have run : codeAny (model X.prog X.w) X.A (.compLoop (.ListComp elt [⟨tg, iter, ifs, 0⟩] scope pos) 0 (.ref it) (.ref D) ce) (compPostF (model X.prog X.w) X.A X.xe use Qf (.ref D) sB.heap.objs.size X.env.frame) sC := by
    refine compLoop_any (fun n s' => ∃ i, Sta i n s') ?_ n0 ⟨0, HB, IC, stC, nB, start0⟩
    rintro n s5 ⟨i, H5, I5, st5, n5, w5⟩
    rcases each i n H5 w5 with ⟨ends, fin⟩ | ⟨goes, Nx, less, body⟩
    · refine sim (turn.done (X.blk sB HB scope ce fp) rfl rfl rfl hc i [] s5 _ H5 (fun _ _ => False) I5 (fpAt I5 n5) st5 ends) fun r s6 ⟨hr, I6⟩ => ?_
      subst hr
      have I7 : Inv X pins σ H5 s6 := IB.call' (ch := fp) I6.os I6.base I6.hok I6.bare fun b hb => ⟨(fpB b hb).1.2.2.2.1, (fpB b hb).1.2.1, (fpB b hb).1.2.2.2.2.1, (fpB b hb).1.2.2.2.2.2⟩
      obtain ⟨mm, nsm, _⟩ := I6.loc
      have nsm : s6.heap.Ns ce.locals mm := nsm
      have nL : H5 ce.locals = none := I6.free
      rw [ceL] at nsm nL
      exact hRR D sB.heap.objs.size s6 mm H5 I7 fin nsm (IB.fpOk (Nat.le_refl _) nL)
    · refine sim (turn.item (X.blk sB HB scope ce fp) rfl rfl rfl hc i [] s5 _ H5 (fun _ _ => False) I5 (fpAt I5 n5) st5 goes) fun r s6 ⟨u, hr, h6⟩ => ?_
      subst hr
      refine sim h6 fun _ s7 ⟨v, H7, I7, r7, y7, st7, n7⟩ => ?_
      refine simR (pg.run _ s7 _ H7 v u _ ((I7.pinned (fpAt I7 n7) (turn.obj _ _ st7)).wish _) r7 (body v H7 y7)) fun _ s8 ⟨σ8, H8, I8, same8, q8⟩ => ?_
      refine simR (pt.run _ s8 σ8 H8 _ I8 q8) fun b s9 ⟨H9, I9, q9⟩ => ?_
      have again : ∀ {s' : Shared} {H' : Hp}, Inv (X.blk sB HB scope ce fp) ([] ++ pinsAt fp s7.heap) σ8 H' s' → Nx H' → ∃ m, m < n ∧ ∃ i, Sta i m s' := fun {s' H'} I' nx => by
        obtain ⟨m', lt, w'⟩ := less H' nx
        have pinned : ∀ b ∈ fp, ∀ o, s7.heap.get? b = some o → s'.heap.get? b = some o ∧ H' b = none := fun b hb o z =>
          let q := I'.pin (b, o) (List.mem_append_right _ (List.mem_append_right _ (mem_pinsAt hb z)))
          ⟨q.1, q.2.1⟩
        refine ⟨m', lt, i + 1, H', (I'.unpinned (pins := [])).weak (by rw [← same8, wipe_length]) (fun j z q => ?_), turn.keep _ _ _ st7 fun b hb o z => (pinned b hb o z).1, fun b hb => ?_, w'⟩
        · rw [← same8] at q
          exact (wipe_some q).1
        · obtain ⟨o, z, _⟩ := turn.obj _ _ st7 b hb
          exact (pinned b hb o z).2
      match b, q9 with
      | false, q9 => exact again I9.unwish q9
      | true, q9 => exact simR (pe.run _ s9 σ8 H9 _ I9 q9) fun z s10 ⟨yv, H10, I10, r10, acc, eD, lt, nx⟩ => L2.app_ok (X := X.blk sB HB scope ce fp) I10.unwish eD lt r10 fun s11 I11 => again I11 nx
  exact codeAny_compStart_list run (turn.self X.A 0 _ _ _ stC run)
/-- [..] that an error may leave from within -/
theorem pe_lcR {elt tg iter : Expr} {ifs : List Expr} {scope : Scope} {own : List (Str × Nat)} {pos : Pos} {wi : TI} {g : TG} {tt : TT} {te : TE} (tk : Takes X (fun cls d _ H => E cls d H)) (hst : X.stack = X.env :: X.outer) (hfr : X.env.frame = some X.env.locals)
    (hc : X.calm = true) (hN : X.N.Nodup) (hi : PI X tg iter wi) (ok : BlkOk X.N X.env.scope scope own) (hb : BlkR X E scope tg elt ifs g tt te) (hs : ∀ x, foldedSetIterable iter X.env x = pure x := by intro _; rfl) :
    PE X (.ListComp elt [⟨tg, iter, ifs, 0⟩] scope pos) (tLc wi g tt te (own.map (·.2))) := by
  refine ⟨fun pins s σ H Q I h => ?_⟩
  rw [eval_ListComp]
  refine lc_coreR tk hst hfr hc hN I hi ok hb hs h fun D C s' m H' I' q hn f => ⟨m, hn, fun h'' sb => ?_⟩
  obtain ⟨f0, f1, f2, f3, f4, f5⟩ := f
  exact ⟨.ref D, H', I'.turned (t' := s'.toks) (fun b o hb e => (sb.2 b hb).trans e) f0 f1 f3 f4 f5, rfl, q⟩
theorem ps_setLcR {i : Nat} {y : Str} {py : Pos} {elt tg iter : Expr} {ifs : List Expr} {scope : Scope} {own : List (Str × Nat)} {pos spos : Pos} {wi : TI} {g : TG} {tt : TT} {te : TE} (tk : Takes X (fun cls d _ H => E cls d H)) (hst : X.stack = X.env :: X.outer) (hfr : X.env.frame = some X.env.locals)
    (hc : X.calm = true) (hN : X.N.Nodup) (hy : X.N[i]? = some y) (hyl : X.env.scope.names.lookup y = some .local)
    (hsw : swapsWith (.ListComp elt [⟨tg, iter, ifs, 0⟩] scope pos) (some (.Name y py)) spos.line X.env = pure true) (hi : PI X tg iter wi) (ok : BlkOk X.N X.env.scope scope own)
    (hb : BlkR X E scope tg elt ifs g tt te) (hs : ∀ x, foldedSetIterable iter X.env x = pure x := by intro _; rfl) :
    PS X (.Assign [.Name y py] (.ListComp elt [⟨tg, iter, ifs, 0⟩] scope pos) spos) (tAsg (tLc wi g tt te (own.map (·.2))) (gName i)) := by
  refine ⟨fun pins s σ H D I h => ?_⟩
  rw [exec_Assign_Name_used _ _ _ _ hsw]
  refine wpAny_bind (wpAny_standAt (wpAny_bind ?_))
  show wpAny _ X.A (do let _ ← comprehension (.ListComp elt [⟨tg, iter, ifs, 0⟩] scope pos) scope X.env (firstIterPos [⟨tg, iter, ifs, 0⟩] pos) (newList []) false (eval iter X.env) (some (assign (.Name y py) X.env))) _ _ s
  have h : tLc wi g tt te (own.map (·.2)) σ H (fun x H1 => gName i x σ H1 D.nx) := h
  refine wpAny_bind (thn (lc_coreR (Qf := fun _ s' => SP X pins D .next s') tk hst hfr hc hN I hi ok hb hs h fun L C s' m H' I' q hn f => ?_) fun _ s' hq => wpAny_pure (wpAny_pure hq))
  show wpAny _ _ (assign (.Name y py) X.env (.ref L)) _ _ _
  refine wpAny_assign_Name (store_ok2 (v := V.ref L) I' hN hy (.inl hyl) rfl (fun s2 I2 ⟨a, sb, ha⟩ => ?_) (.inr hyl))
  obtain ⟨f0, f1, f2, f3, f4, f5⟩ := f
  have haC : C ≠ a := by
    rcases ha with z | z
    · rw [z]; exact f1
    · exact fun e => f4 y a z e.symm
  refine ⟨m, hn.sameBut sb haC, fun h3 sb3 => ?_⟩
  exact ⟨_, H', I2.turned (t' := s2.toks) (fun b o hb e => (sb3.2 b hb).trans e) f0 f1 f3 f4 f5, q⟩
end
end L2.Px
set_option Elab.async false
set_option linter.all false
set_option maxRecDepth 100000
set_option maxHeartbeats 2000000
namespace L2.Px
open PySem PySem.Spec PyProof.Rows TL
open Builtin Float
end L2.Px
namespace L2.Px
open PySem PySem.Spec PyProof.Rows TL
open Builtin Float
end L2.Px
set_option Elab.async false
set_option linter.all false
set_option maxRecDepth 100000
set_option maxHeartbeats 1000000
namespace L2.Px
open PySem PySem.Spec PyProof.Rows StX TL
open Sem (wp)
end L2.Px
set_option Elab.async false
set_option linter.all false
set_option maxRecDepth 100000
set_option maxHeartbeats 1000000
namespace L2.Px
open PySem PySem.Spec PyProof.Rows StX TL
theorem sIx_neg (n d k : Nat) (hk : 0 < k) : HT.sIx n d (some (-(k : Int))) = n - k := by
  show (if (-(k : Int)) < 0 then ((-(k : Int)) + (n : Int)).toNat else _) = _
  rw [if_pos (by omega)]; omega
end L2.Px
set_option Elab.async false
set_option linter.all false
set_option maxRecDepth 100000
set_option maxHeartbeats 1000000
namespace L2.Px
open PySem PySem.Spec PyProof.Rows StX TL
section
variable {K : PySem.W.Frag} {CIS CTL CIP CIL CT CP CE : Addr} {H H' : Hp} {Q : VK} {E : XK} {e t l : Addr} {ss tt : List Stp} {ds us d' u' : List Ent} {en : Ent} {ms rs : List V} {os : List Op} {p c : Nat} {w : Str} {f z n : Nat}
theorem OpsAt.steps (h : StepsAt K H ms ss) : OpsAt K H ms (ss.map .st) := by
  refine ⟨by rw [List.length_map]; exact h.1, fun j o hj => ?_⟩
  rw [List.getElem?_map] at hj
  cases hs : ss[j]? with
  | none => rw [hs] at hj; cases hj
  | some s =>
    rw [hs] at hj; cases hj
    obtain ⟨v, a, b, c, d⟩ := h.2 j s hs
    exact ⟨v, a, b, c, d⟩
theorem OpsAt.nil : OpsAt K H [] [] := ⟨rfl, fun _ _ h => by simp at h⟩
theorem rd_edPT (h : EdAt K CT CP CE H e ss ds us) (q : ∀ a, TX K CT CP H a ss → Q (.ref a) H) : ∃ a' dx fs, V.ref e = .ref a' ∧ H a' = some (.ins CE dx fs) ∧ sp_Editor_present_text K CT CP CE [.ref a'] H Q E := by
  obtain ⟨i, ed, _⟩ := id h
  exact ⟨e, _, _, rfl, ed.ins, e, ss, ds, us, rfl, h, q⟩
end
end L2.Px
set_option Elab.async false
set_option linter.all false
set_option maxRecDepth 100000
set_option maxHeartbeats 1000000
namespace L2.Px
open PySem PySem.Spec PyProof.Rows StX TL
/-- a step typed as a, b, c, z -/
def okL1 (s : Stp) : Prop := ∀ c ∈ ty1 s, c = 97 ∨ c = 98 ∨ c = 99 ∨ c = 122
section
variable (K : PySem.W.Frag) (CT CP CE : Addr)
def sp_x_law_drawn : Sp := fun vs H Q _ => ∃ (r : Addr) (tot most : Nat), vs = [.ref r, .int tot, .int most] ∧ RowAt K H r ∧ tot ≤ 1000000000000000000 ∧ 1 ≤ most ∧ most ≤ 1000000000 ∧
  ∀ p v s H', Kp H H' → RowAt K H' r → H' p = some (.tup [v, .int (tot + len1 s : Nat)]) → StepAt K H' v s → okStep tot s → len1 s ≤ 6 * most → okL1 s → Q (.ref p) H'
def sp_x_law_some : Sp := fun vs H Q _ => ∃ (r : Addr) (count most : Nat), vs = [.ref r, .int count, .int most] ∧ RowAt K H r ∧ count ≤ 20 ∧ 1 ≤ most ∧ most ≤ 1000000000 ∧
  ∀ l ms ss H', Kp H H' → RowAt K H' r → H' l = some (.lst ms) → StepsAt K H' ms ss → okFrom 0 ss → 1 ≤ sz ss → ss.length ≤ count + 1 → sz ss ≤ (count + 1) * (6 * most) → okLs ss → Q (.ref l) H'
def sp_x_law_made : Sp := fun vs H Q _ => ∃ (a : Addr) (ms : List V) (ss : List Stp), vs = [.ref a] ∧ SqL K H a ms ∧ StepsAt K H ms ss ∧ okFrom 0 ss ∧ ss.length ≤ 30 ∧
  ∀ p H', Same H H' → TX K CT CP H' p ss → Q (.ref p) H'
end
section
variable (K : PySem.W.Frag) (CT CP CE : Addr)
def sp_Editor_apply0 : Sp := fun vs H Q _ => ∃ e m ss ds us, vs = [.ref e, .ref m] ∧ EdAt K CT CP CE H e ss ds us ∧ SqT K H m [] ∧ ∀ H' l, Same H H' → H' l = some (.lst []) → Q (.ref l) H'
def sp_Editor_replay0 : Sp := fun vs H Q _ => ∃ t rs ss l, vs = [.ref CE, .ref t, .ref l] ∧ SqT K H t rs ∧ StepsAt K H rs ss ∧ okFrom 0 ss ∧ ss.length ≤ 30 ∧ (SqT K H l [] ∨ SqL K H l []) ∧ ∀ H' e, Same H H' → H e = none → EdAt K CT CP CE H' e ss [] [] → Q (.ref e) H'
end
theorem okLs.nil : okLs [] := fun c h => by cases h
theorem okLs.snoc {ss : List Stp} {s : Stp} (h : okLs ss) (g : okL1 s) : okLs (ss ++ [s]) := fun c hc => by
  rw [tyL_append] at hc
  rcases List.mem_append.mp hc with hc | hc
  · exact h c hc
  · exact g c (by simpa [tyL] using hc)
theorem okL1.wr {x : Str} {m : Nat} (hx : okWord x m) : okL1 (.wr x) := fun c hc => hx.2.2 c hc
theorem okL1.pa {f l t : Nat} : okL1 (.pa f l t) := fun c hc => by cases hc
theorem StepAt.wrN {K : PySem.W.Frag} {H : Hp} {p : Addr} {x : Str} (e : H p = some (.tup [.str "write", .str x])) : StepAt K H (.ref p) (.wr x) := ⟨p, rfl, SqT.of e⟩
theorem StepAt.paN {K : PySem.W.Frag} {H : Hp} {p : Addr} {f l t : Nat} (e : H p = some (.tup [.str "paste", .int (f : Nat), .int (l : Nat), .int (t : Nat)])) : StepAt K H (.ref p) (.pa f l t) := ⟨p, rfl, SqT.of e⟩
section
variable {K : PySem.W.Frag} {CT CP CE : Addr} {H H' : Hp} {Q : VK} {E : XK} {r l a : Addr} {i j : Int} {ms : List V} {ss : List Stp}
theorem rd_drawn (row : RowAt K H r) (h0 : 0 ≤ i) (h1 : i ≤ 1000000000000000000) (h2 : 1 ≤ j) (h3 : j ≤ 1000000000)
    (q : ∀ p v s H', Kp H H' → RowAt K H' r → H' p = some (.tup [v, .int (i + (len1 s : Nat))]) → StepAt K H' v s → okStep i.toNat s → (len1 s : Int) ≤ 6 * j → okL1 s → Q (.ref p) H') : sp_x_law_drawn K [.ref r, .int i, .int j] H Q E := by
  obtain ⟨n, rfl⟩ : ∃ n : Nat, i = n := ⟨i.toNat, by omega⟩
  obtain ⟨m, rfl⟩ : ∃ m : Nat, j = m := ⟨j.toNat, by omega⟩
  refine ⟨r, n, m, rfl, row, by omega, by omega, by omega, fun p v s H' k rw' e sa ok le lt => q p v s H' k rw' ?_ sa ok (by omega) lt⟩
  rw [e]; simp
theorem rd_some (row : RowAt K H r) (h0 : 0 ≤ i) (h1 : i ≤ 20) (h2 : 1 ≤ j) (h3 : j ≤ 1000000000)
    (q : ∀ l ms ss H', Kp H H' → RowAt K H' r → H' l = some (.lst ms) → StepsAt K H' ms ss → okFrom 0 ss → 1 ≤ sz ss → (ss.length : Int) ≤ i + 1 → (sz ss : Int) ≤ (i + 1) * (6 * j) → okLs ss → Q (.ref l) H') : sp_x_law_some K [.ref r, .int i, .int j] H Q E := by
  obtain ⟨n, rfl⟩ : ∃ n : Nat, i = n := ⟨i.toNat, by omega⟩
  obtain ⟨m, rfl⟩ : ∃ m : Nat, j = m := ⟨j.toNat, by omega⟩
  exact ⟨r, n, m, rfl, row, by omega, by omega, by omega, fun l ms ss H' k rw' e sa ok h1 h2 h3 hl => q l ms ss H' k rw' e sa ok h1 (by omega) (by exact_mod_cast h3) hl⟩
theorem rd_edRep0 {t l : Addr} (ht : TS' K H t ss) (hl : H l = some (.lst [])) (ok : okFrom 0 ss) (few : ss.length ≤ 30)
    (q : ∀ H' e, Same H H' → H e = none → EdAt K CT CP CE H' e ss [] [] → Q (.ref e) H') : sp_Editor_replay0 K CT CP CE [.ref CE, .ref t, .ref l] H Q E :=
  let ⟨rs, h1, h2⟩ := ht
  ⟨t, rs, ss, l, rfl, h1, h2, ok, few, .inr (SqL.of hl), q⟩
theorem rd_tupLS (h : SqL K H l ms) (hs : StepsAt K H ms ss) (q : ∀ p H', Same H H' → TS' K H' p ss → Q (.ref p) H') : rTupA K [.ref l] H Q := rd_tupleL h fun p H' S n e => q p H' S ⟨ms, SqT.of e, hs.mono S⟩
theorem rd_made (h : SqL K H a ms) (hs : StepsAt K H ms ss) (ok : okFrom 0 ss) (few : ss.length ≤ 30) (q : ∀ p H', Same H H' → TX K CT CP H' p ss → Q (.ref p) H') : sp_x_law_made K CT CP [.ref a] H Q E :=
  ⟨a, ms, ss, rfl, h, hs, ok, few, q⟩
end
theorem pick_abcz {n : Nat} {v : V} (h : [V.str "a", V.str "b", V.str "c", V.str "z"][n]? = some v) : ∃ c : Nat, v = .str ⟨#[c]⟩ ∧ (c = 97 ∨ c = 98 ∨ c = 99 ∨ c = 122) := by
  match n, h with
  | 0, h => cases h; exact ⟨97, congrArg V.str (by decide +kernel), by decide⟩
  | 1, h => cases h; exact ⟨98, congrArg V.str (by decide +kernel), by decide⟩
  | 2, h => cases h; exact ⟨99, congrArg V.str (by decide +kernel), by decide⟩
  | 3, h => cases h; exact ⟨122, congrArg V.str (by decide +kernel), by decide⟩
  | n + 4, h => simp at h
section
variable {K : PySem.W.Frag} {H : Hp} {l a : Addr} {xs ys ms : List V} {ss : List Stp} {o : HO}
theorem SqT.updL (h : SqT K H a xs) (e : H l = some (.lst ys)) : SqT K (upd H l o) a xs := by
  rcases h with (h | ⟨u, h⟩) | h
  · exact .inl (.inl (by rw [upd_ne fun z => by subst z; rw [e] at h; cases h]; exact h))
  · exact .inl (.inr ⟨u, by rw [upd_ne fun z => by subst z; rw [e] at h; cases h]; exact h⟩)
  · exact .inr h
theorem StepsAt.updL (h : StepsAt K H ms ss) (e : H l = some (.lst ys)) : StepsAt K (upd H l o) ms ss := ⟨h.1, fun j s q => let ⟨v, a, b, c, d⟩ := h.2 j s q; ⟨v, a, b, c, SqT.updL d e⟩⟩
theorem StepAt.updL {v : V} {s : Stp} (h : StepAt K H v s) (e : H l = some (.lst ys)) : StepAt K (upd H l o) v s := let ⟨b, c, d⟩ := h; ⟨b, c, SqT.updL d e⟩
end
theorem rd_mulW {H : Hp} {Q : VK} {i j : Int} {n m : Nat} (hi : i = n) (hj : j = m) (h1 : n < 1152921504606846976) (h2 : m < 1152921504606846976) (q : Q (.int (n * m : Nat)) H) : rI CMulW (fun i j => V.int (i * j)) (.int i) (.int j) H Q := by
  subst hi hj
  refine rd_I (wide_mul (a := 60) (b := 60) (by rw [Int.natAbs_natCast]; omega) (by rw [Int.natAbs_natCast]; omega) (by decide) (by decide) (by decide)) ?_
  rw [← Int.natCast_mul]; exact q
end L2.Px
set_option Elab.async false
set_option linter.all false
set_option maxRecDepth 100000
set_option maxHeartbeats 1000000
namespace L2.Px
open PySem PySem.Spec PyProof.Rows StX TL ClX
instance okStep_dec (n : Nat) : ∀ s : Stp, Decidable (okStep n s)
  | .wr w => inferInstanceAs (Decidable (1 ≤ w.length ∧ w.length ≤ 20 ∧ ∀ c ∈ tl w, 97 ≤ c ∧ c ≤ 122))
  | .pa f l t => inferInstanceAs (Decidable (f ≤ l ∧ l < n ∧ 1 ≤ t ∧ t ≤ 1000000000))
section
variable {K : PySem.W.Frag} {H : Hp} {Q : VK}
theorem map_range_get {α β : Type} (f : Option α → β) (g : α → β) (hg : ∀ a, f (some a) = g a) (L : List α) {n : Nat} (hn : n = L.length) : (List.range n).map (fun j => f L[j]?) = L.map g := by
  subst hn
  apply List.ext_getElem?
  intro i
  rw [List.getElem?_map, List.getElem?_map]
  by_cases h : i < L.length
  · rw [List.getElem?_range h, List.getElem?_eq_getElem h]
    simp [hg, List.getElem?_eq_getElem h]
  · rw [List.getElem?_eq_none (by rw [List.length_range]; omega), List.getElem?_eq_none (by omega)]; rfl
end
theorem same_back {H H1 : Hp} {a : Addr} (S : Same H H1) (h : H1 a = none) : H a = none := by
  cases e : H a with
  | none => rfl
  | some o => rw [S a o e] at h; cases h
end L2.Px
set_option Elab.async false
set_option linter.all false
set_option maxRecDepth 100000
set_option maxHeartbeats 1000000
namespace L2.Px
open PySem PySem.Spec PyProof.Rows StX TL ClX
/-- a number in groups of seven bits -/
def grpN (n : Nat) : List Nat := if n < 128 then [n] else (128 + n % 128) :: grpN (n / 128)
termination_by n
decreasing_by omega
theorem grpN_lt {n : Nat} (h : n < 128) : grpN n = [n] := by rw [grpN, if_pos h]
theorem grpN_ge {n : Nat} (h : 128 ≤ n) : grpN n = (128 + n % 128) :: grpN (n / 128) := by rw [grpN, if_neg (by omega)]
theorem grpN_255 : ∀ (n : Nat), ∀ v ∈ grpN n, v ≤ 255 := by
  intro n
  induction n using Nat.strongRecOn with
  | ind n ih =>
    intro v hv
    by_cases h : n < 128
    · rw [grpN_lt h, List.mem_singleton] at hv; omega
    · rw [grpN_ge (by omega)] at hv
      rcases List.mem_cons.mp hv with rfl | hv
      · omega
      · exact ih (n / 128) (by omega) v hv
theorem grpN_len : ∀ (k n : Nat), 0 < k → n < 128 ^ k → (grpN n).length ≤ k
  | 0, _, h, _ => absurd h (by decide)
  | k + 1, n, _, hn => by
    by_cases h : n < 128
    · rw [grpN_lt h]; simp
    · rw [grpN_ge (by omega), List.length_cons]
      rcases Nat.eq_zero_or_pos k with rfl | hk
      · simp at hn; omega
      · have := grpN_len k (n / 128) hk (by rw [Nat.pow_succ] at hn; omega)
        omega
theorem grpN_pos (n : Nat) : 1 ≤ (grpN n).length := by
  by_cases h : n < 128
  · rw [grpN_lt h]; simp
  · rw [grpN_ge (by omega)]; simp
/-- the checksum -/
def ckS (l : List Nat) : Nat := l.foldl (fun r v => (r * 7 + v) % 227) 3
theorem ckS_snoc (l : List Nat) (v : Nat) : ckS (l ++ [v]) = (ckS l * 7 + v) % 227 := by unfold ckS; rw [List.foldl_append]; rfl
theorem ckS_lt : ∀ (l : List Nat), ckS l < 227 := by
  intro l
  rcases List.eq_nil_or_concat l with rfl | ⟨m, v, rfl⟩
  · decide
  · rw [List.concat_eq_append, ckS_snoc]; omega
def encS : Stp → List Nat
  | .wr w => 0 :: (tl w).length :: (tl w).map (· - 97)
  | .pa f l t => 1 :: (grpN f ++ grpN l ++ grpN t)
def encV (ss : List Stp) : List Nat := 80 :: ss.length :: (ss.map encS).flatten
def encT (ss : List Stp) : List Nat := encV ss ++ [ckS (encV ss)]
theorem encS_255 {s : Stp} {n : Nat} (h : okStep n s) : ∀ v ∈ encS s, v ≤ 255 := by
  intro v hv
  cases s with
  | wr w =>
    have hl : (tl w).length ≤ 20 := by rw [← len_tl]; exact h.2.1
    simp only [encS, List.mem_cons, List.mem_map] at hv
    rcases hv with rfl | rfl | ⟨c, hc, rfl⟩
    · decide
    · omega
    · have := h.2.2 c hc; omega
  | pa f l t =>
    simp only [encS, List.mem_cons, List.mem_append] at hv
    rcases hv with rfl | (hv | hv) | hv
    · decide
    · exact grpN_255 _ v hv
    · exact grpN_255 _ v hv
    · exact grpN_255 _ v hv
theorem encS_len {s : Stp} {n : Nat} (h : okStep n s) (hn : n ≤ 1000000000000000000) : (encS s).length ≤ 40 := by
  cases s with
  | wr w =>
    have hl : (tl w).length ≤ 20 := by rw [← len_tl]; exact h.2.1
    show ((tl w).map (· - 97)).length + 1 + 1 ≤ 40
    rw [List.length_map]; omega
  | pa f l t =>
    obtain ⟨h1, h2, h3, h4⟩ := h
    have e1 := grpN_len 9 f (by decide) (Nat.lt_of_lt_of_le (show f < 1000000000000000000 by omega) (by decide))
    have e2 := grpN_len 9 l (by decide) (Nat.lt_of_lt_of_le (show l < 1000000000000000000 by omega) (by decide))
    have e3 := grpN_len 9 t (by decide) (Nat.lt_of_lt_of_le (show t < 1000000000000000000 by omega) (by decide))
    show (grpN f ++ grpN l ++ grpN t).length + 1 ≤ 40
    rw [List.length_append, List.length_append]; omega
theorem encF_255 : ∀ {ss : List Stp} {n : Nat}, okFrom n ss → ∀ v ∈ (ss.map encS).flatten, v ≤ 255
  | [], _, _, v, hv => by simp at hv
  | s :: r, n, ok, v, hv => by
    rw [List.map_cons, List.flatten_cons] at hv
    rcases List.mem_append.mp hv with hv | hv
    · exact encS_255 ok.1 v hv
    · exact encF_255 ok.2.2 v hv
theorem encF_len : ∀ {ss : List Stp} {n : Nat}, okFrom n ss → n ≤ 1000000000000000000 → ((ss.map encS).flatten).length ≤ ss.length * 40
  | [], _, _, _ => by simp
  | s :: r, n, ok, hn => by
    rw [List.map_cons, List.flatten_cons, List.length_append, List.length_cons]
    have := encS_len ok.1 hn
    have := encF_len ok.2.2 ok.2.1
    omega
theorem encV_255 {ss : List Stp} (ok : okFrom 0 ss) (few : ss.length ≤ 30) : ∀ v ∈ encV ss, v ≤ 255 := fun v hv => by
  rcases List.mem_cons.mp hv with rfl | hv
  · decide
  · rcases List.mem_cons.mp hv with rfl | hv
    · omega
    · exact encF_255 ok v hv
theorem encV_len {ss : List Stp} (ok : okFrom 0 ss) (few : ss.length ≤ 30) : (encV ss).length ≤ 1300 := by
  have := encF_len ok (by decide)
  show ((ss.map encS).flatten).length + 1 + 1 ≤ 1300
  omega
theorem encT_255 {ss : List Stp} (ok : okFrom 0 ss) (few : ss.length ≤ 30) : ∀ v ∈ encT ss, v ≤ 255 := fun v hv => by
  rcases List.mem_append.mp hv with hv | hv
  · exact encV_255 ok few v hv
  · rw [List.mem_singleton.mp hv]; have := ckS_lt (encV ss); omega
theorem encT_len {ss : List Stp} (ok : okFrom 0 ss) (few : ss.length ≤ 30) : (encT ss).length ≤ 1301 := by
  have := encV_len ok few
  unfold encT
  rw [List.length_append]
  simpa using this
inductive DR (α : Type) where
  | ok (v : α) (o : Nat)
  | er (k : Nat)
def DR.bind {α β : Type} : DR α → (α → Nat → DR β) → DR β
  | .ok v o, f => f v o
  | .er k, _ => .er k
theorem DR.bind_ok {α β : Type} {v : α} {o : Nat} {f : α → Nat → DR β} : (DR.ok v o).bind f = f v o := rfl
theorem DR.inv {α β : Type} {r : DR α} {f : α → Nat → DR β} {v : β} {o : Nat} (h : r.bind f = .ok v o) : ∃ x q, r = .ok x q ∧ f x q = .ok v o := by
  cases r with
  | ok x q => exact ⟨x, q, rfl, h⟩
  | er k => cases h
def tkD (b : List Nat) (o lo hi : Nat) : DR Nat := match b[o]? with
  | some v => if lo ≤ v ∧ v ≤ hi then .ok v (o + 1) else .er o
  | none => .er o
/-- the groups from a place on, o + fuel = the number of bytes -/
def nmL (b : List Nat) : Nat → Nat → Nat → Nat → DR Nat
  | 0, o, _, _ => .er o
  | n + 1, o, acc, fac => match b[o]? with
    | none => .er o
    | some v => if v = 0 ∧ 1 < fac then .er o else if v < 128 then .ok (acc + v % 128 * fac) (o + 1) else nmL b n (o + 1) (acc + v % 128 * fac) (fac * 128)
/-- a number, at least lo, less than hi -/
def nmD (b : List Nat) (o lo hi : Nat) : DR Nat := (nmL b (b.length - o) o 0 1).bind fun n o' => if lo ≤ n ∧ n < hi then .ok n o' else .er o
def ltD (b : List Nat) : Nat → Nat → List Nat → DR (List Nat)
  | 0, o, acc => .ok acc o
  | n + 1, o, acc => (tkD b o 0 25).bind fun v o' => ltD b n o' (acc ++ [97 + v])
def wrD (b : List Nat) (o : Nat) : DR Stp := (tkD b o 1 20).bind fun n o2 => (ltD b n o2 []).bind fun L o3 => .ok (.wr (mkS L)) o3
def paD (b : List Nat) (o tot : Nat) : DR Stp := (nmD b o 0 tot).bind fun f o2 => (nmD b o2 f tot).bind fun l o3 => (nmD b o3 1 1000000001).bind fun t o4 => .ok (.pa f l t) o4
/-- a step as it is read -/
def spD (b : List Nat) (o tot : Nat) : DR Stp := (tkD b o 0 1).bind fun v o1 => if v = 0 then wrD b o1 else paD b o1 tot
/-- a step, the text not too long behind it -/
def stpD (b : List Nat) (o tot : Nat) : DR Stp := (spD b o tot).bind fun s o' => if 1000000000000000000 < tot + len1 s then .er o else .ok s o'
def ssD (b : List Nat) : Nat → Nat → Nat → List Stp → DR (List Stp)
  | 0, o, _, acc => .ok acc o
  | n + 1, o, tot, acc => (stpD b o tot).bind fun s o' => ssD b n o' (tot + len1 s) (acc ++ [s])
def finD (b : List Nat) (o : Nat) : DR Unit := (tkD b o (ckS (b.take o)) (ckS (b.take o))).bind fun _ o4 => if o4 < b.length then .er o4 else .ok () o4
def decD (b : List Nat) : DR (List Stp) := (tkD b 0 80 80).bind fun _ o1 => (tkD b o1 0 30).bind fun n o2 => (ssD b n o2 0 []).bind fun ss o3 => (finD b o3).bind fun _ o4 => .ok ss o4
theorem tkD_ok {b : List Nat} {o lo hi v o' : Nat} (h : tkD b o lo hi = .ok v o') : b[o]? = some v ∧ lo ≤ v ∧ v ≤ hi ∧ o' = o + 1 ∧ o' ≤ b.length := by
  unfold tkD at h
  cases e : b[o]? with
  | none => rw [e] at h; cases h
  | some x =>
    rw [e] at h
    have hl := (List.getElem?_eq_some_iff.mp e).1
    by_cases hx : lo ≤ x ∧ x ≤ hi
    · have h : (if lo ≤ x ∧ x ≤ hi then DR.ok x (o + 1) else .er o) = .ok v o' := h
      rw [if_pos hx] at h
      cases h
      exact ⟨rfl, hx.1, hx.2, rfl, hl⟩
    · have h : (if lo ≤ x ∧ x ≤ hi then DR.ok x (o + 1) else .er o) = .ok v o' := h
      rw [if_neg hx] at h
      cases h
theorem nmL_le {b : List Nat} : ∀ (n o acc fac : Nat) {v o' : Nat}, nmL b n o acc fac = .ok v o' → o < o' ∧ o' ≤ b.length
  | 0, o, acc, fac, v, o', h => by cases h
  | n + 1, o, acc, fac, v, o', h => by
    unfold nmL at h
    cases e : b[o]? with
    | none => rw [e] at h; cases h
    | some x =>
      rw [e] at h
      have hl := (List.getElem?_eq_some_iff.mp e).1
      have h : (if x = 0 ∧ 1 < fac then DR.er o else if x < 128 then .ok (acc + x % 128 * fac) (o + 1) else nmL b n (o + 1) (acc + x % 128 * fac) (fac * 128)) = .ok v o' := h
      split at h
      · cases h
      · split at h
        · cases h; omega
        · have := nmL_le n _ _ _ h; omega
theorem nmD_ok {b : List Nat} {o lo hi v o' : Nat} (h : nmD b o lo hi = .ok v o') : lo ≤ v ∧ v < hi ∧ o < o' ∧ o' ≤ b.length := by
  obtain ⟨n, q, e, h⟩ := DR.inv h
  have hq := nmL_le _ _ _ _ e
  split at h
  · rename_i hx
    cases h
    exact ⟨hx.1, hx.2, hq.1, hq.2⟩
  · cases h
theorem ltD_ok {b : List Nat} : ∀ (n o : Nat) (acc : List Nat) {L : List Nat} {o' : Nat}, ltD b n o acc = .ok L o' → o ≤ b.length → (∀ c ∈ acc, 97 ≤ c ∧ c ≤ 122) → L.length = acc.length + n ∧ (∀ c ∈ L, 97 ≤ c ∧ c ≤ 122) ∧ o' ≤ b.length ∧ o' = o + n
  | 0, o, acc, L, o', h, ho, ha => by cases h; exact ⟨rfl, ha, ho, rfl⟩
  | n + 1, o, acc, L, o', h, ho, ha => by
    obtain ⟨v, q, e, h⟩ := DR.inv h
    obtain ⟨_, _, h2, rfl, h4⟩ := tkD_ok e
    obtain ⟨a, b', c, d⟩ := ltD_ok n (o + 1) (acc ++ [97 + v]) h h4 fun c hc => by
      rcases List.mem_append.mp hc with hc | hc
      · exact ha c hc
      · rw [List.mem_singleton.mp hc]; omega
    exact ⟨by rw [a, List.length_append]; simp; omega, b', c, by omega⟩
theorem wrD_ok {b : List Nat} {o tot o' : Nat} {s : Stp} (h : wrD b o = .ok s o') : okStep tot s ∧ o < o' ∧ o' ≤ b.length := by
  obtain ⟨n, o2, e2, h⟩ := DR.inv h
  obtain ⟨_, n1, n2, rfl, h2⟩ := tkD_ok e2
  obtain ⟨L, o3, e3, h⟩ := DR.inv h
  cases h
  obtain ⟨a, c, d, q⟩ := ltD_ok n _ [] e3 h2 (fun c hc => by cases hc)
  refine ⟨⟨?_, ?_, ?_⟩, by omega, d⟩
  · rw [mkS_len, a]; simpa using n1
  · rw [mkS_len, a]; simpa using n2
  · rw [tl_mkS]; exact c
theorem paD_ok {b : List Nat} {o tot o' : Nat} {s : Stp} (h : paD b o tot = .ok s o') : okStep tot s ∧ o < o' ∧ o' ≤ b.length := by
  obtain ⟨f, o2, e2, h⟩ := DR.inv h
  obtain ⟨l, o3, e3, h⟩ := DR.inv h
  obtain ⟨t, o4, e4, h⟩ := DR.inv h
  cases h
  have a1 := nmD_ok e2
  have a2 := nmD_ok e3
  have a3 := nmD_ok e4
  exact ⟨⟨a2.1, a2.2.1, a3.1, by omega⟩, by omega, a3.2.2.2⟩
theorem spD_ok {b : List Nat} {o tot o' : Nat} {s : Stp} (h : spD b o tot = .ok s o') : okStep tot s ∧ o < o' ∧ o' ≤ b.length := by
  obtain ⟨v, o1, e, h⟩ := DR.inv h
  obtain ⟨_, _, _, rfl, h1⟩ := tkD_ok e
  split at h
  · obtain ⟨a, c, d⟩ := wrD_ok (tot := tot) h
    exact ⟨a, by omega, d⟩
  · obtain ⟨a, c, d⟩ := paD_ok h
    exact ⟨a, by omega, d⟩
theorem stpD_ok {b : List Nat} {o tot o' : Nat} {s : Stp} (h : stpD b o tot = .ok s o') : okStep tot s ∧ tot + len1 s ≤ 1000000000000000000 ∧ o < o' ∧ o' ≤ b.length := by
  obtain ⟨t, q, e, h⟩ := DR.inv h
  split at h
  · cases h
  · cases h
    obtain ⟨a, b', c⟩ := spD_ok e
    exact ⟨a, by omega, b', c⟩
theorem ssD_ok {b : List Nat} : ∀ (n o tot : Nat) (acc : List Stp) {ss : List Stp} {o' : Nat}, ssD b n o tot acc = .ok ss o' → o ≤ b.length → okFrom 0 acc → sz acc = tot → okFrom 0 ss ∧ ss.length = acc.length + n ∧ o' ≤ b.length
  | 0, o, tot, acc, ss, o', h, ho, ok, hs => by cases h; exact ⟨ok, rfl, ho⟩
  | n + 1, o, tot, acc, ss, o', h, ho, ok, hs => by
    obtain ⟨s, q, e, h⟩ := DR.inv h
    obtain ⟨a1, a2, a3, a4⟩ := stpD_ok e
    subst hs
    obtain ⟨b1, b2, b3⟩ := ssD_ok n q _ (acc ++ [s]) h a4 (ok_snoc ok a1 a2) (by rw [sz_snoc])
    exact ⟨b1, by rw [b2, List.length_append]; simp; omega, b3⟩
theorem decD_ok {b : List Nat} {ss : List Stp} {o : Nat} (h : decD b = .ok ss o) : okFrom 0 ss ∧ ss.length ≤ 30 := by
  obtain ⟨v, o1, e1, h⟩ := DR.inv h
  obtain ⟨n, o2, e2, h⟩ := DR.inv h
  obtain ⟨ss', o3, e3, h⟩ := DR.inv h
  obtain ⟨_, o4, e4, h⟩ := DR.inv h
  cases h
  obtain ⟨_, _, n2, rfl, h2⟩ := tkD_ok e2
  obtain ⟨a, c, _⟩ := ssD_ok n _ 0 [] e3 h2 trivial rfl
  exact ⟨a, by rw [c]; simpa using n2⟩
theorem at_pre {p q : List Nat} {v : Nat} : (p ++ v :: q)[p.length]? = some v := by rw [List.getElem?_append_right (Nat.le_refl _), Nat.sub_self]; rfl
theorem tkD_at {p q : List Nat} {v lo hi : Nat} (h : lo ≤ v ∧ v ≤ hi) : tkD (p ++ v :: q) p.length lo hi = .ok v (p ++ [v]).length := by
  unfold tkD
  rw [at_pre]
  show (if _ then _ else _) = _
  rw [if_pos h, List.length_append]; rfl
theorem nmL_at : ∀ (n : Nat) (p q : List Nat) (f acc fac : Nat), (grpN n).length ≤ f → (1 < fac → n ≠ 0) → nmL (p ++ (grpN n ++ q)) f p.length acc fac = .ok (acc + n * fac) (p ++ grpN n).length := by
  intro n
  induction n using Nat.strongRecOn with
  | ind n ih =>
    intro p q f acc fac hf h0
    obtain ⟨f, rfl⟩ : ∃ g, f = g + 1 := ⟨f - 1, by have := grpN_pos n; omega⟩
    by_cases h : n < 128
    · rw [grpN_lt h]
      unfold nmL
      rw [show p ++ ([n] ++ q) = p ++ n :: q from rfl, at_pre]
      show (if _ then _ else if _ then _ else _) = _
      rw [if_neg (by intro z; exact h0 z.2 z.1), if_pos h, Nat.mod_eq_of_lt h, List.length_append]; rfl
    · have hg := grpN_ge (n := n) (by omega)
      rw [hg] at hf ⊢
      unfold nmL
      rw [List.cons_append, at_pre]
      show (if _ then _ else if _ then _ else _) = _
      rw [if_neg (by omega), if_neg (by omega)]
      have e : p ++ (128 + n % 128) :: (grpN (n / 128) ++ q) = (p ++ [128 + n % 128]) ++ (grpN (n / 128) ++ q) := by simp
      have el : p.length + 1 = (p ++ [128 + n % 128]).length := by simp
      rw [e, el, ih (n / 128) (by omega) _ _ _ _ _ (by simp at hf; exact hf) (by omega)]
      congr 1
      · have e1 : (128 + n % 128) % 128 = n % 128 := by omega
        have e2 := Nat.div_add_mod n 128
        rw [e1, Nat.mul_comm fac 128, ← Nat.mul_assoc, Nat.add_assoc, ← Nat.add_mul]
        congr 2
        omega
      · simp
theorem nmD_at {n lo hi : Nat} {p q : List Nat} (h : lo ≤ n ∧ n < hi) : nmD (p ++ (grpN n ++ q)) p.length lo hi = .ok n (p ++ grpN n).length := by
  unfold nmD
  rw [nmL_at n p q _ 0 1 (by simp) (by omega), DR.bind_ok, show 0 + n * 1 = n by omega, if_pos h]
theorem ltD_at : ∀ (M : List Nat) (p q : List Nat) (acc : List Nat), (∀ c ∈ M, 97 ≤ c ∧ c ≤ 122) → ltD (p ++ (M.map (· - 97) ++ q)) M.length p.length acc = .ok (acc ++ M) (p ++ M.map (· - 97)).length
  | [], p, q, acc, _ => by simp [ltD]
  | c :: M, p, q, acc, h => by
    have hc := h c List.mem_cons_self
    rw [List.length_cons, List.map_cons, List.cons_append]
    unfold ltD
    rw [tkD_at (p := p) (q := M.map (· - 97) ++ q) (v := c - 97) (by omega), DR.bind_ok]
    have e : p ++ (c - 97) :: (M.map (· - 97) ++ q) = (p ++ [c - 97]) ++ (M.map (· - 97) ++ q) := by simp
    rw [e, ltD_at M _ q _ fun d hd => h d (List.mem_cons_of_mem _ hd)]
    congr 1
    · rw [show 97 + (c - 97) = c by omega]; simp
    · simp
theorem spD_at {s : Stp} {tot : Nat} {p q : List Nat} (h : okStep tot s) : spD (p ++ (encS s ++ q)) p.length tot = .ok s (p ++ encS s).length := by
  cases s with
  | wr w =>
    have hl : 1 ≤ (tl w).length ∧ (tl w).length ≤ 20 := by rw [← len_tl]; exact ⟨h.1, h.2.1⟩
    have b0 : p ++ (encS (.wr w) ++ q) = p ++ 0 :: ((tl w).length :: (tl w).map (· - 97) ++ q) := by simp [encS]
    have b1 : p ++ (encS (.wr w) ++ q) = (p ++ [0]) ++ (tl w).length :: ((tl w).map (· - 97) ++ q) := by simp [encS]
    have b2 : p ++ (encS (.wr w) ++ q) = (p ++ [0] ++ [(tl w).length]) ++ ((tl w).map (· - 97) ++ q) := by simp [encS]
    unfold spD
    rw [show tkD (p ++ (encS (.wr w) ++ q)) p.length 0 1 = .ok 0 (p ++ [0]).length by rw [b0]; exact tkD_at (by decide), DR.bind_ok, if_pos rfl]
    unfold wrD
    have t1 : tkD (p ++ (encS (.wr w) ++ q)) (p ++ [0]).length 1 20 = .ok (tl w).length (p ++ [0] ++ [(tl w).length]).length := by rw [b1]; exact tkD_at hl
    rw [t1, DR.bind_ok, b2, ltD_at (tl w) _ _ _ h.2.2, DR.bind_ok]
    rw [List.nil_append, show mkS (tl w) = w from ext_tl (tl_mkS _)]
    congr 1
    simp [encS]
  | pa f l t =>
    obtain ⟨h1, h2, h3, h4⟩ := h
    have b0 : p ++ (encS (.pa f l t) ++ q) = p ++ 1 :: (grpN f ++ grpN l ++ grpN t ++ q) := by simp [encS]
    have b1 : p ++ (encS (.pa f l t) ++ q) = (p ++ [1]) ++ (grpN f ++ (grpN l ++ (grpN t ++ q))) := by simp [encS]
    have b2 : p ++ (encS (.pa f l t) ++ q) = (p ++ [1] ++ grpN f) ++ (grpN l ++ (grpN t ++ q)) := by simp [encS]
    have b3 : p ++ (encS (.pa f l t) ++ q) = (p ++ [1] ++ grpN f ++ grpN l) ++ (grpN t ++ q) := by simp [encS]
    unfold spD
    rw [show tkD (p ++ (encS (.pa f l t) ++ q)) p.length 0 1 = .ok 1 (p ++ [1]).length by rw [b0]; exact tkD_at (by decide), DR.bind_ok, if_neg (by decide)]
    unfold paD
    have t1 : nmD (p ++ (encS (.pa f l t) ++ q)) (p ++ [1]).length 0 tot = .ok f (p ++ [1] ++ grpN f).length := by rw [b1]; exact nmD_at (by omega)
    rw [t1, DR.bind_ok]
    have t2 : nmD (p ++ (encS (.pa f l t) ++ q)) (p ++ [1] ++ grpN f).length f tot = .ok l (p ++ [1] ++ grpN f ++ grpN l).length := by rw [b2]; exact nmD_at (by omega)
    rw [t2, DR.bind_ok]
    have t3 : nmD (p ++ (encS (.pa f l t) ++ q)) (p ++ [1] ++ grpN f ++ grpN l).length 1 1000000001 = .ok t (p ++ [1] ++ grpN f ++ grpN l ++ grpN t).length := by rw [b3]; exact nmD_at (by omega)
    rw [t3, DR.bind_ok]
    congr 1
    simp [encS]
theorem ssD_at : ∀ (r : List Stp) (p q : List Nat) (tot : Nat) (acc : List Stp), okFrom tot r → ssD (p ++ ((r.map encS).flatten ++ q)) r.length p.length tot acc = .ok (acc ++ r) (p ++ (r.map encS).flatten).length
  | [], p, q, tot, acc, _ => by simp [ssD]
  | s :: r, p, q, tot, acc, ok => by
    rw [List.length_cons, List.map_cons, List.flatten_cons, List.append_assoc]
    unfold ssD stpD
    rw [spD_at ok.1, DR.bind_ok, if_neg (by have := ok.2.1; omega), DR.bind_ok]
    rw [show p ++ (encS s ++ ((r.map encS).flatten ++ q)) = (p ++ encS s) ++ ((r.map encS).flatten ++ q) by simp, ssD_at r _ q _ _ ok.2.2]
    congr 1 <;> simp
/-- the bytes of a text lead back -/
theorem dec_enc {ss : List Stp} (ok : okFrom 0 ss) (few : ss.length ≤ 30) : decD (encT ss) = .ok ss (encT ss).length := by
  have e0 : encT ss = [] ++ 80 :: (ss.length :: ((ss.map encS).flatten ++ [ckS (encV ss)])) := by simp [encT, encV]
  have e1 : encT ss = [80] ++ ss.length :: ((ss.map encS).flatten ++ [ckS (encV ss)]) := by simp [encT, encV]
  have e2 : encT ss = [80, ss.length] ++ ((ss.map encS).flatten ++ [ckS (encV ss)]) := by simp [encT, encV]
  have e3 : encT ss = encV ss ++ ckS (encV ss) :: [] := rfl
  have t0 : tkD (encT ss) 0 80 80 = .ok 80 1 := by rw [e0]; exact tkD_at (p := []) (by decide)
  have t1 : tkD (encT ss) 1 0 30 = .ok ss.length 2 := by rw [e1]; exact tkD_at (p := [80]) ⟨Nat.zero_le _, few⟩
  have t2 : ssD (encT ss) ss.length 2 0 [] = .ok ss (encV ss).length := by
    rw [e2]
    exact ssD_at ss [80, ss.length] _ 0 [] ok
  have t3 : (encT ss).take (encV ss).length = encV ss := by rw [e3]; exact List.take_left
  have t4 : tkD (encT ss) (encV ss).length (ckS (encV ss)) (ckS (encV ss)) = .ok (ckS (encV ss)) (encT ss).length := by
    conv => lhs; rw [e3]
    exact tkD_at ⟨Nat.le_refl _, Nat.le_refl _⟩
  unfold decD
  rw [t0, DR.bind_ok, t1, DR.bind_ok, t2, DR.bind_ok]
  unfold finD
  rw [t3, t4, DR.bind_ok, if_neg (Nat.lt_irrefl _)]
  rfl
end L2.Px
set_option Elab.async false
set_option linter.all false
set_option maxRecDepth 100000
set_option maxHeartbeats 1000000
namespace L2.Px
open PySem PySem.Spec PyProof.Rows StX TL ClX LamX
def kvM (ls : List (Nat × Nat)) : List (Key × V) := ls.map fun c => ((Sum.inl ((c.1 : Nat) : Int) : Key), V.str ⟨#[c.2]⟩)
/-- the letters are letters, the keys unlike and below n -/
structure LsOk (n : Nat) (ls : List (Nat × Nat)) : Prop where
  ok : ∀ p ∈ ls, p.1 < n ∧ 97 ≤ p.2 ∧ p.2 ≤ 122
  nd : (ls.map (·.1)).Nodup
theorem LsOk.nil {n : Nat} : LsOk n [] := ⟨fun p h => absurd h (List.not_mem_nil), List.Pairwise.nil⟩
theorem LsOk.len {n : Nat} {ls : List (Nat × Nat)} (h : LsOk n ls) : ls.length ≤ n := by
  have := nodup_len (m := List.range n) h.nd fun k hk => by
    obtain ⟨p, hp, rfl⟩ := List.mem_map.mp hk
    exact List.mem_range.mpr (h.ok p hp).1
  simpa using this
inductive Obs where
  | see (p c : Nat)
  | word (p : Nat) (w : List Nat)
  | alike (p o : Nat)
deriving DecidableEq
def obsV : Obs → List V
  | .see p c => [.str "see", .int (p : Nat), .str ⟨#[c]⟩]
  | .word p w => [.str "see_word", .int (p : Nat), .str (mkS w)]
  | .alike p o => [.str "hear_alike", .int (p : Nat), .int (o : Nat)]
def ObsAt (K : PySem.W.Frag) (H : Hp) (ms : List V) (ob : List Obs) : Prop := ms.length = ob.length ∧ ∀ (j : Nat) o, ob[j]? = some o → ∃ a, ms[j]? = some (V.ref a) ∧ SqT K H a (obsV o)
def Bt (A : List Addr) (H H' : Hp) : Prop := ∀ b o, b ∉ A → H b = some o → H' b = some o
def Kh (C : Addr) (H H' : Hp) : Prop := ∀ b o, (∀ dx fs, o ≠ .ins C dx fs) → (∀ kvs, o ≠ .dK kvs) → (∀ y L, o ≠ .lst (natV (y :: L))) → H b = some o → H' b = some o
section
variable {K : PySem.W.Frag} {CT CP CE CK C : Addr} {T : List (Addr × Str)} {A B : List Addr} {H H' H1 : Hp} {a b x h d t l r e : Addr} {o : HO} {v : V} {xs ms ps : List V} {s : Stp} {ss : List Stp} {n y : Nat} {ob : List Obs} {os : List Op} {ds us : List Ent}
theorem Bt.refl : Bt A H H := fun _ _ _ h => h
theorem Bt.trans (e : Bt A H H1) (g : Bt A H1 H') : Bt A H H' := fun b o hb h => g b o hb (e b o hb h)
theorem Bt.same (S : Same H H') : Bt A H H' := fun b o _ h => S b o h
theorem Bt.but (e : But x H H') (hx : x ∈ A) : Bt A H H' := fun b o hb h => e b o (fun z => hb (z ▸ hx)) h
/-- what is new is changed -/
theorem Bt.fresh (S : Same H H1) (e : Bt A H1 H') (n : ∀ a ∈ A, H a = none) : Same H H' := fun b o q => e b o (fun z => by rw [n b z] at q; cases q) (S b o q)
theorem Kh.refl : Kh C H H := fun _ _ _ _ _ h => h
theorem Kh.trans (e : Kh C H H1) (g : Kh C H1 H') : Kh C H H' := fun b o h1 h2 h3 h => g b o h1 h2 h3 (e b o h1 h2 h3 h)
theorem Kh.same (S : Same H H') : Kh C H H' := fun b o _ _ _ h => S b o h
theorem nn_refs (h : ∀ v ∈ xs, isRef v = true) : ∀ y L, HO.lst xs ≠ .lst (natV (y :: L)) := by
  intro y L e
  cases e
  have := h (.int (y : Nat)) (by unfold natV; exact List.mem_cons_self)
  cases this
theorem Kh.tup (e : Kh C H H') (h : SqT K H a xs) : SqT K H' a xs := by
  rcases h with (h | ⟨o, h⟩) | h
  · exact .inl (.inl (e _ _ (fun _ _ z => nomatch z) (fun _ z => nomatch z) (fun _ _ z => nomatch z) h))
  · exact .inl (.inr ⟨o, e _ _ (fun _ _ z => nomatch z) (fun _ z => nomatch z) (fun _ _ z => nomatch z) h⟩)
  · exact .inr h
theorem Kh.tu (e : Kh C H H') (h : H a = some (.tup xs)) : H' a = some (.tup xs) := e _ _ (fun _ _ z => nomatch z) (fun _ z => nomatch z) (fun _ _ z => nomatch z) h
theorem Kh.li (e : Kh C H H') (n : ∀ v ∈ xs, isRef v = true) (h : H a = some (.lst xs)) : H' a = some (.lst xs) := e _ _ (fun _ _ z => nomatch z) (fun _ z => nomatch z) (nn_refs n) h
theorem Kh.lst (e : Kh C H H') (n : ∀ v ∈ xs, isRef v = true) (h : SqL K H a xs) : SqL K H' a xs := by
  rcases h with (h | ⟨o, h⟩) | h
  · exact .inl (.inl (e.li n h))
  · exact .inl (.inr ⟨o, e _ _ (fun _ _ z => nomatch z) (fun _ z => nomatch z) (fun _ _ z => nomatch z) h⟩)
  · exact .inr h
theorem Kh.tabs (e : Kh C H H') (t : Tabs T H) : Tabs T H' := by
  intro p hp
  obtain ⟨ps, h1, h2, h3⟩ := t p hp
  refine ⟨ps, e _ _ (fun _ _ z => nomatch z) (fun _ z => nomatch z) (fun _ _ z => nomatch z) h1, h2, fun pos cv hc => ?_⟩
  obtain ⟨c, h4, h5⟩ := h3 pos cv hc
  exact ⟨c, h4, e _ _ (fun _ _ z => nomatch z) (fun _ z => nomatch z) (fun _ _ z => nomatch z) h5⟩
theorem StepsAt.kh (h : StepsAt K H ms ss) (e : Kh C H H') : StepsAt K H' ms ss := ⟨h.1, fun j s q => let ⟨v, a, b, c, z⟩ := h.2 j s q; ⟨v, a, b, c, e.tup z⟩⟩
theorem PartAt.kh (hn : CP ≠ C) (h : PartAt CP H v n y s) (e : Kh C H H') : PartAt CP H' v n y s := by
  cases s with
  | wr w => obtain ⟨p, dx, ev, q⟩ := h; exact ⟨p, dx, ev, e _ _ (ins_ne hn) (fun _ z => nomatch z) (fun _ _ z => nomatch z) q⟩
  | pa f l t => obtain ⟨p, dx, ev, q⟩ := h; exact ⟨p, dx, ev, e _ _ (ins_ne hn) (fun _ z => nomatch z) (fun _ _ z => nomatch z) q⟩
theorem PartsAt.kh (hn : CP ≠ C) (h : PartsAt CP H ps ss) (e : Kh C H H') : PartsAt CP H' ps ss := ⟨h.1, fun j s q => let ⟨v, a, b⟩ := h.2 j s q; ⟨v, a, b.kh hn e⟩⟩
theorem TX.kh (h : TX K CT CP H a ss) (hT : CT ≠ C) (hP : CP ≠ C) (e : Kh C H H') : TX K CT CP H' a ss :=
  let ⟨t, x, y⟩ := h; ⟨t, ⟨e _ _ (ins_ne hT) (fun _ z => nomatch z) (fun _ _ z => nomatch z) x.ins, e.tup x.made, x.stp.kh e, e.li x.prt.refs x.pls, x.prt.kh hP e, x.ok, x.few⟩, y⟩
theorem TS'.kh (h : TS' K H a ss) (e : Kh C H H') : TS' K H' a ss := let ⟨ms, x, y⟩ := h; ⟨ms, e.tup x, y.kh e⟩
theorem OpAt.kh {o : Op} (h : OpAt K H v o) (e : Kh C H H') : OpAt K H' v o := let ⟨a, b, c⟩ := h; ⟨a, b, e.tup c⟩
theorem OpsAt.kh (h : OpsAt K H ms os) (e : Kh C H H') : OpsAt K H' ms os := ⟨h.1, fun j s q => let ⟨v, a, b⟩ := h.2 j s q; ⟨v, a, b.kh e⟩⟩
theorem EntsAt.kh {es : List Ent} (hT : CT ≠ C) (hP : CP ≠ C) (h : EntsAt K CT CP H ms es) (k : Kh C H H') : EntsAt K CT CP H' ms es :=
  ⟨h.1, fun j s q => let ⟨v, a, t, o, b, c, ev, q0, h1, h2, h3⟩ := h.2 j s q; ⟨v, a, t, o, b, c, ev, k.tup q0, h1.kh k, h2.kh hT hP k, h3.kh hT hP k⟩⟩
theorem EdAt.kh (hT : CT ≠ C) (hP : CP ≠ C) (hE : CE ≠ C) (h : EdAt K CT CP CE H e ss ds us) (k : Kh C H H') : EdAt K CT CP CE H' e ss ds us := by
  obtain ⟨i, a, b⟩ := h
  exact ⟨i, ⟨k _ _ (ins_ne hE) (fun _ z => nomatch z) (fun _ _ z => nomatch z) a.ins, a.tx.kh hT hP k, k.tup a.dn, a.de.kh hT hP k, k.tup a.un, a.ue.kh hT hP k⟩, b⟩
theorem ObsAt.kh (h : ObsAt K H ms ob) (e : Kh C H H') : ObsAt K H' ms ob := ⟨h.1, fun j s q => let ⟨a, b, c⟩ := h.2 j s q; ⟨a, b, e.tup c⟩⟩
theorem ObsAt.kl (h : ObsAt K H ms ob) (e : Kl T H H') : ObsAt K H' ms ob := ⟨h.1, fun j s q => let ⟨a, b, c⟩ := h.2 j s q; ⟨a, b, e.tup c⟩⟩
theorem ObsAt.mono (h : ObsAt K H ms ob) (e : Same H H') : ObsAt K H' ms ob := ⟨h.1, fun j s q => let ⟨a, b, c⟩ := h.2 j s q; ⟨a, b, Same.tup e c⟩⟩
theorem ObsAt.nil : ObsAt K H [] [] := ⟨rfl, fun _ _ h => by simp at h⟩
theorem ObsAt.snoc {o : Obs} (h : ObsAt K H ms ob) (q : SqT K H a (obsV o)) : ObsAt K H (ms ++ [.ref a]) (ob ++ [o]) := by
  refine ⟨by simp [h.1], fun j s hj => ?_⟩
  rcases Nat.lt_or_ge j ob.length with z | z
  · rw [List.getElem?_append_left z] at hj
    obtain ⟨v', a, b⟩ := h.2 j s hj
    exact ⟨v', by rw [List.getElem?_append_left (by rw [h.1]; exact z)]; exact a, b⟩
  · have e : j = ob.length := by
      have := (List.getElem?_eq_some_iff.mp hj).1
      rw [List.length_append, List.length_singleton] at this; omega
    subst e
    rw [List.getElem?_append_right (Nat.le_refl _), Nat.sub_self] at hj
    cases hj
    exact ⟨a, by rw [← h.1, List.getElem?_append_right (Nat.le_refl _), Nat.sub_self]; rfl, q⟩
end
def rdF (t h d s : V) : List (Str × V) := [("source_text", t), ("heads", h), ("letters", d), ("seen", s)]
section
variable {t h d s v : V} {f : Str}
theorem rdF_no (h' : f ≠ "source_text" ∧ f ≠ "heads" ∧ f ≠ "letters" ∧ f ≠ "seen") : (rdF t h d s).lookup f = none := by
  unfold rdF
  simp only [List.lookup_cons, beq_false_of_ne h'.1, beq_false_of_ne h'.2.1, beq_false_of_ne h'.2.2.1, beq_false_of_ne h'.2.2.2, List.lookup_nil]
end
structure RdI where
  dx : Addr
  t : Addr
  s : Addr
  sm : List V
  hs : List Nat
/-- the reader at x, its heads at h, its dict at d: its text, the roots, the letters of roots, the observations -/
structure RdAt (K : PySem.W.Frag) (CT CP CK : Addr) (H : Hp) (x h d : Addr) (ss : List Stp) (f : Nat → Nat) (ls : List (Nat × Nat)) (ob : List Obs) (i : RdI) : Prop where
  ins : H x = some (.ins CK i.dx (rdF (.ref i.t) (.ref h) (.ref d) (.ref i.s)))
  tx : TX K CT CP H i.t ss
  hl : H h = some (.lst (natV i.hs))
  dl : H d = some (.dK (kvM ls))
  sn : SqT K H i.s i.sm
  obs : ObsAt K H i.sm ob
  rt : Rt i.hs f
  len : i.hs.length = (tyL ss).length
  lok : LsOk (tyL ss).length ls
def Reader (K : PySem.W.Frag) (CT CP CK : Addr) (H : Hp) (x h d : Addr) (ss : List Stp) (f : Nat → Nat) (ls : List (Nat × Nat)) (ob : List Obs) : Prop := ∃ i, RdAt K CT CP CK H x h d ss f ls ob i
section
variable {K : PySem.W.Frag} {CT CP CE CK : Addr} {H H' : Hp} {x h d l p : Addr} {ss : List Stp} {f : Nat → Nat} {ls : List (Nat × Nat)} {ob : List Obs} {i : RdI} {Q : VK} {E : XK}
theorem RdAt.same (r : RdAt K CT CP CK H x h d ss f ls ob i) (S : Same H H') : RdAt K CT CP CK H' x h d ss f ls ob i :=
  ⟨S _ _ r.ins, r.tx.kp (.same S), S _ _ r.hl, S _ _ r.dl, Same.tup S r.sn, r.obs.kh (C := x) (.same S), r.rt, r.len, r.lok⟩
theorem Reader.same (r : Reader K CT CP CK H x h d ss f ls ob) (S : Same H H') : Reader K CT CP CK H' x h d ss f ls ob := let ⟨i, a⟩ := r; ⟨i, a.same S⟩
theorem Reader.kl {T : List (Addr × Str)} (r : Reader K CT CP CK H x h d ss f ls ob) (k : Kl T H H') : Reader K CT CP CK H' x h d ss f ls ob := let ⟨i, a⟩ := r
  ⟨i, k.keep _ _ nr_ins (fun _ z => nomatch z) a.ins, a.tx.kl k, k.keep _ _ nr_natV (fun _ z => nomatch z) a.hl, k.keep _ _ id (fun _ z => nomatch z) a.dl, k.tup a.sn, a.obs.kl k, a.rt, a.len, a.lok⟩
theorem Reader.kp (r : Reader K CT CP CK H x h d ss f ls ob) (k : Kp H H') : Reader K CT CP CK H' x h d ss f ls ob := r.kl (T := []) (.kp k)
/-- an editor changes -/
theorem Reader.km {T : List (Addr × Str)} (hT : CT ≠ CE) (hP : CP ≠ CE) (hK : CK ≠ CE) (r : Reader K CT CP CK H x h d ss f ls ob) (k : Km CE T H H') : Reader K CT CP CK H' x h d ss f ls ob := let ⟨i, a⟩ := r
  ⟨i, k.keep _ _ nr_ins (fun _ z => nomatch z) (ins_ne hK) a.ins, a.tx.km hT hP k, k.li nr_natV a.hl, k.keep _ _ id (fun _ z => nomatch z) (fun _ _ z => nomatch z) a.dl, k.tup a.sn, ⟨a.obs.1, fun j o q => let ⟨b, e, g⟩ := a.obs.2 j o q; ⟨b, e, k.tup g⟩⟩, a.rt, a.len, a.lok⟩
theorem Reader.insM {m : Str} (r : Reader K CT CP CK H x h d ss f ls ob) (hm : m ≠ "source_text" ∧ m ≠ "heads" ∧ m ≠ "letters" ∧ m ≠ "seen" := by decide +kernel) : InsM H x CK m := let ⟨_, a⟩ := r; ⟨_, _, a.ins, rdF_no hm⟩
theorem Reader.insA (r : Reader K CT CP CK H x h d ss f ls ob) : InsA H x CK := let ⟨_, a⟩ := r; ⟨_, _, a.ins⟩
/-- the reader changes: texts, rows, tables, editors stay -/
theorem Reader.kh (r : Reader K CT CP CK H x h d ss f ls ob) (h0 : 0 < (tyL ss).length) (e : Bt [x, h, d] H H') : Kh CK H H' := by
  obtain ⟨i, a⟩ := r
  refine fun b o h1 h2 h3 q => e b o ?_ q
  intro hb
  simp only [List.mem_cons, List.not_mem_nil, or_false] at hb
  rcases hb with rfl | rfl | rfl
  · rw [a.ins] at q; cases q; exact h1 _ _ rfl
  · rw [a.hl] at q
    cases q
    have hl := a.len
    cases hh : i.hs with
    | nil => rw [hh] at hl; simp at hl; omega
    | cons y L => exact h3 y L (by rw [hh])
  · rw [a.dl] at q; cases q; exact h2 _ rfl
variable (K CT CP CK)
end
end L2.Px
set_option Elab.async false
set_option linter.all false
set_option maxRecDepth 100000
set_option maxHeartbeats 4000000
namespace L2.Px
open PySem PySem.Spec PyProof.Rows
end L2.Px
set_option Elab.async false
set_option linter.all false
set_option maxRecDepth 100000
set_option maxHeartbeats 2000000
namespace L2.Px
open PySem PySem.Spec PyProof.Rows StX TL
end L2.Px
namespace L2.Px
open PySem PySem.Spec PyProof.Rows StX TL
end L2.Px
set_option Elab.async false
set_option linter.all false
set_option maxRecDepth 100000
set_option maxHeartbeats 1000000
namespace L2.Px
open PySem PySem.Spec PyProof.Rows StX TL ClX LamX
section
variable {K : PySem.W.Frag} {CT CP CE CK C : Addr} {H H' : Hp} {x h d l p : Addr} {ss : List Stp} {f : Nat → Nat} {ls : List (Nat × Nat)} {ob : List Obs} {i : RdI} {Q : VK} {E : XK} {m : Str} {P : Prop} {k c : Nat} {L : List Nat}
theorem RdAt.ok (r : RdAt K CT CP CK H x h d ss f ls ob i) : (tyL ss).length ≤ 600 := by
  have h1 := tyL_small r.tx.ok
  have h2 := r.tx.few
  omega
end
end L2.Px
set_option Elab.async false
set_option linter.all false
set_option maxRecDepth 100000
set_option maxHeartbeats 1000000
namespace L2.Px
open PySem PySem.Spec PyProof.Rows StX TL ClX LamX
theorem ip_mul {X : Cx} : PIp X .Mult (rI CMul fun i j => .int (i * j)) := iop_mul
end L2.Px
set_option Elab.async false
set_option linter.all false
set_option maxRecDepth 100000
set_option maxHeartbeats 1000000
namespace L2.Px
open PySem PySem.Spec PyProof.Rows StX TL ClX
def byA (L : List Nat) : Array UInt8 := byteArr (L.map fun n : Nat => (n : Int))
/-- the bytes of values -/
def byV (L : List Nat) : V := .byt (byA L)
def Byt (L : List Nat) : Prop := L.length ≤ 100000 ∧ ∀ v ∈ L, v ≤ 255
theorem byA_size (L : List Nat) : (byA L).size = L.length := by unfold byA; rw [byteArr_size, List.length_map]
theorem byt_B8 {L : List Nat} (h : ∀ v ∈ L, v ≤ 255) : B8 (L.map fun n : Nat => (n : Int)) := fun n hn => by
  obtain ⟨v, hv, rfl⟩ := List.mem_map.mp hn
  have := h v hv
  omega
theorem ip_fdiv {X : Cx} : PIp X .FloorDiv (rI CDiv fun i j => .int (i / j)) := iop_fdiv
def rBytesL (K : PySem.W.Frag) : List V → Hp → VK → Prop := fun xs H Q => ∃ p ns, xs = [.ref p] ∧ SqL K H p (ns.map V.int) ∧ B8 ns ∧ Q (.byt (byteArr ns)) H
theorem bytesK {X : Cx} {K : PySem.W.Frag} (hk : X.K = K) (hc : X.calm = true) : CallR X (.type "bytes") (rBytesL K) := hk ▸ call_bytes_list hc
def rListB : List V → Hp → VK → Prop := r1 kLstB
theorem listB {X : Cx} (hc : X.calm = true) : CallR X (.type "list") rListB := call_r1 (rl_listB hc)
def rItB : R2 := fun x y H Q => ∃ (z : List UInt8) (i : Int), x = .byt z.toArray ∧ y = .int i ∧ z.length ≤ sizeLine ∧ 0 ≤ i ∧ i < z.length ∧ Q (.int ((z.getD i.toNat 0).toNat : Nat)) H
theorem pe_itemB {X : Cx} {a b : Expr} {pos : Pos} {ta tb : TE} (ha : PE X a ta) (hb : PE X b tb) (hs : PlainIxT b) : PE X (.Subscript a b pos) (tOp rItB ta tb) := pe_item_byt ha hb hs
def rSIndex : V → List V → Hp → VK → Prop := fun x xs H Q => ∃ a b i rest, x = .str a ∧ xs = [.str b] ∧ Builtin.Str.occurrences a b 0 a.length 1 = i :: rest ∧ Q (.int (i : Nat)) H
theorem mt_sindexA {X : Cx} : MtR X "str.index" rSIndex := mt_sindex
theorem occ_low : ∀ j, j < 26 → Builtin.Str.occurrences (Str.ofString "abcdefghijklmnopqrstuvwxyz") ⟨#[97 + j]⟩ 0 (Str.ofString "abcdefghijklmnopqrstuvwxyz").length 1 = [j] := by decide +kernel
def dcF (b : List Nat) (o t : Nat) : List (Str × V) := putF "total" (.int (t : Nat)) (putF "offset" (.int (o : Nat)) (putF "data" (byV b) []))
theorem dcF_lookD {b : List Nat} {o t : Nat} : (dcF b o t).lookup ("data" : Str) = some (byV b) := by rfl
theorem dcF_lookO {b : List Nat} {o t : Nat} : (dcF b o t).lookup ("offset" : Str) = some (.int (o : Nat)) := by rfl
theorem dcF_lookT {b : List Nat} {o t : Nat} : (dcF b o t).lookup ("total" : Str) = some (.int (t : Nat)) := by rfl
theorem dcF_len {b : List Nat} {o t : Nat} : (dcF b o t).length < 1000 := Nat.lt_of_le_of_lt (putF_len (k := 2) (putF_len (k := 1) (putF_len (k := 0) (by decide)))) (by decide)
theorem dcF_o {b : List Nat} {o t o' : Nat} : putF "offset" (.int (o' : Nat)) (dcF b o t) = dcF b o' t := by rfl
theorem dcF_t {b : List Nat} {o t t' : Nat} : putF "total" (.int (t' : Nat)) (dcF b o t) = dcF b o t' := by rfl
/-- the decoder at x: its bytes, how many are read, the size of the text so far -/
def DcAt (CD : Addr) (H : Hp) (x : Addr) (b : List Nat) (o t : Nat) : Prop := ∃ dx, H x = some (.ins CD dx (dcF b o t))
section
variable (K : PySem.W.Frag) (CDE CIC CD CT CP : Addr)
/-- what is answered, or raised at which byte -/
def Rd8 {α : Type} (H : Hp) (x : Addr) (r : DR α) (E : XK) (k : α → Nat → Hp → Prop) : Prop := match r with
  | .ok v o => ∀ H', But x H H' → k v o H'
  | .er o => ∀ d H', But x H H' → H' d = some (.xd [("offset", .int (o : Nat))]) → E (.ref CDE) (some d) H'
def sp_checksum_of : Sp := fun vs H Q _ => ∃ l L, vs = [.ref l] ∧ H l = some (.lst (natV L)) ∧ ∀ H', Same H H' → Q (.int (ckS L : Nat)) H'
def sp_number_values : Sp := fun vs H Q _ => ∃ n : Nat, vs = [.int (n : Nat)] ∧ n ≤ 1000000000000000000 ∧ ∀ l H', Same H H' → H l = none → H' l = some (.lst (natV (grpN n))) → Q (.ref l) H'
def sp_encode_text : Sp := fun vs H Q _ => ∃ a ss, vs = [.ref a] ∧ TX K CT CP H a ss ∧ ∀ H', Same H H' → Q (byV (encT ss)) H'
def sp_unpack_bytes : Sp := fun vs H Q _ => ∃ b, vs = [byV b] ∧ Byt b ∧ ∀ l H', Same H H' → H l = none → H' l = some (.lst (natV b)) → Q (.ref l) H'
/-- what pack_bytes refuses -/
def BadPk (H : Hp) (v : V) : Prop := v = .non ∨ (∃ a xs, v = .ref a ∧ SqT K H a xs) ∨ ∃ a xs, v = .ref a ∧ H a = some (.lst xs) ∧ xs.length ≤ 1000 ∧ (∀ x ∈ xs, NoSeq x) ∧ ∃ x ∈ xs, isInt 0 255 x = false
def sp_pack_bytesR : Sp := fun vs H Q E => ∃ v, vs = [v] ∧ ((∃ l L, v = .ref l ∧ H l = some (.lst (natV L)) ∧ Byt L ∧ ∀ H', Same H H' → Q (byV L) H') ∨ (BadPk K H v ∧ ∀ H', Same H H' → E (.ref CIC) none H'))
def sp_Decoder_init : Sp := fun vs H Q _ => ∃ x dx b, vs = [.ref x, byV b] ∧ H x = some (.ins CD dx []) ∧ ∀ H', But x H H' → DcAt CD H' x b 0 0 → Q .non H'
def sp_Decoder_takeR : Sp := fun vs H Q E => ∃ (x : Addr) (b : List Nat) (o t lo hi : Nat), vs = [.ref x, .int (lo : Nat), .int (hi : Nat)] ∧ DcAt CD H x b o t ∧ Byt b ∧ o ≤ b.length ∧ Rd8 CDE H x (tkD b o lo hi) E fun v o' H' => DcAt CD H' x b o' t → Q (.int (v : Nat)) H'
def sp_Decoder_take_numberR : Sp := fun vs H Q E => ∃ (x : Addr) (b : List Nat) (o t lo hi : Nat), vs = [.ref x, .int (lo : Nat), .int ((hi : Nat) - 1)] ∧ DcAt CD H x b o t ∧ Byt b ∧ o ≤ b.length ∧ Rd8 CDE H x (nmD b o lo hi) E fun v o' H' => DcAt CD H' x b o' t → Q (.int (v : Nat)) H'
def sp_Decoder_take_stepR : Sp := fun vs H Q E => ∃ (x : Addr) (b : List Nat) (o t : Nat), vs = [.ref x] ∧ DcAt CD H x b o t ∧ Byt b ∧ o ≤ b.length ∧ t ≤ 1000000000000000000 ∧ Rd8 CDE H x (stpD b o t) E fun s o' H' => ∀ v, DcAt CD H' x b o' (t + len1 s) → StepAt K H' v s → Q v H'
def sp_Decoder_finishR : Sp := fun vs H Q E => ∃ (x : Addr) (b : List Nat) (o t : Nat), vs = [.ref x] ∧ DcAt CD H x b o t ∧ Byt b ∧ o ≤ b.length ∧ Rd8 CDE H x (finD b o) E fun _ _ H' => Q .non H'
def sp_decode_textR : Sp := fun vs H Q E => ∃ b : List Nat, vs = [byV b] ∧ Byt b ∧ (∀ ss o, decD b = .ok ss o → ∀ y H', Same H H' → H y = none → TX K CT CP H' y ss → Q (.ref y) H') ∧
  (∀ k, decD b = .er k → ∀ d H', Same H H' → H' d = some (.xd [("offset", .int (k : Nat))]) → E (.ref CDE) (some d) H')
end
section
variable {K : PySem.W.Frag} {CDE CIC CD CT CP : Addr} {H H' H1 : Hp} {Q : VK} {E : XK} {x l p a : Addr} {b L : List Nat} {o t : Nat} {ss : List Stp}
theorem rd_bytesN (h : H l = some (.lst (natV L))) (h8 : ∀ v ∈ L, v ≤ 255) (q : Q (byV L) H) : rBytesL K [.ref l] H Q := ⟨l, _, rfl, SqL.of (by rw [h, natV_ints]), byt_B8 h8, q⟩
theorem rd_listBy (h8 : Byt L) (q : ∀ p H', Same H H' → H p = none → H' p = some (.lst (natV L)) → Q (.ref p) H') : rListB [byV L] H Q := by
  show kLstB (byV L) H Q
  refine ⟨byA L, rfl, by rw [byA_size, sizeLine_eq]; have := h8.1; omega, fun p hp => q p _ (Same.new (Same.refl _) hp) hp ?_⟩
  rw [upd_same, natV_ints, show bi (byA L) = L.map fun n : Nat => (n : Int) from bInts_of (byt_B8 h8.2)]
theorem rd_itB {i : Int} {v : Nat} (h8 : Byt L) (h : L[i.toNat]? = some v) (h0 : 0 ≤ i) (q : Q (.int (v : Nat)) H) : rItB (byV L) (.int i) H Q := by
  have hl := (List.getElem?_eq_some_iff.mp h).1
  refine ⟨(L.map fun n : Nat => (n : Int)).map fun n => n.toNat.toUInt8, i, rfl, rfl, by rw [List.length_map, List.length_map, sizeLine_eq]; have := h8.1; omega, h0, by rw [List.length_map, List.length_map]; omega, ?_⟩
  have e := byte_at (ns := L.map fun n : Nat => (n : Int)) (j := i.toNat) (n := (v : Nat)) (byt_B8 h8.2) (by rw [List.getElem?_map, h]; rfl)
  rw [e]; exact q
theorem rd_lenBy (h8 : Byt L) (q : Q (.int (L.length : Nat)) H) : rLenA K [byV L] H Q := ⟨_, _, rfl, ⟨by rw [byA_size, sizeLine_eq]; have := h8.1; omega, (byA_size L).symm ▸ rfl⟩, q⟩
theorem rd_slByTo {j : Nat} (h8 : Byt L) (hj : j ≤ L.length) (q : Q (byV (L.take j)) H) : rSlB (byV L) none (some (j : Nat)) H Q := by
  refine ⟨_, rfl, by rw [byA_size]; have := h8.1; omega, ?_⟩
  have e : PySem.W.KBy.picked (byA L) none (some (j : Nat)) = byA (L.take j) := by
    unfold byA byteArr
    rw [pk_to (by simpa using hj), List.map_take, List.map_take]
  rw [e]; exact q
theorem rd_sindexLow {c : Nat} (h1 : 97 ≤ c) (h2 : c ≤ 122) (q : Q (.int ((c - 97 : Nat) : Nat)) H) : rSIndex (.str "abcdefghijklmnopqrstuvwxyz") [.str ⟨#[c]⟩] H Q := by
  have := occ_low (c - 97) (by omega)
  rw [show 97 + (c - 97) = c by omega] at this
  exact ⟨_, _, _, _, rfl, rfl, this, q⟩
theorem Byt.take (h : Byt L) (j : Nat) : Byt (L.take j) := ⟨by rw [List.length_take]; have := h.1; omega, fun v hv => h.2 v (List.mem_of_mem_take hv)⟩
theorem DcAt.same (h : DcAt CD H x b o t) (S : Same H H') : DcAt CD H' x b o t := let ⟨dx, e⟩ := h; ⟨dx, S _ _ e⟩
theorem rd_checksum (h : H l = some (.lst (natV L))) (q : ∀ H', Same H H' → Q (.int (ckS L : Nat)) H') : sp_checksum_of [.ref l] H Q E := ⟨l, L, rfl, h, q⟩
theorem rd_numVals {n : Nat} (hn : n ≤ 1000000000000000000) (q : ∀ l H', Same H H' → H l = none → H' l = some (.lst (natV (grpN n))) → Q (.ref l) H') : sp_number_values [.int (n : Nat)] H Q E := ⟨n, rfl, hn, q⟩
theorem rd_take {i j : Int} {lo hi : Nat} (h : DcAt CD H x b o t) (h8 : Byt b) (ho : o ≤ b.length) (ei : i = lo) (ej : j = hi) (q : Rd8 CDE H x (tkD b o lo hi) E fun v o' H' => DcAt CD H' x b o' t → Q (.int (v : Nat)) H') : sp_Decoder_takeR CDE CD [.ref x, .int i, .int j] H Q E := by
  subst ei ej
  exact ⟨x, b, o, t, lo, hi, rfl, h, h8, ho, q⟩
theorem rd_takeN {i j : Int} {lo hi : Nat} (h : DcAt CD H x b o t) (h8 : Byt b) (ho : o ≤ b.length) (ei : i = lo) (ej : j = (hi : Nat) - 1) (q : Rd8 CDE H x (nmD b o lo hi) E fun v o' H' => DcAt CD H' x b o' t → Q (.int (v : Nat)) H') : sp_Decoder_take_numberR CDE CD [.ref x, .int i, .int j] H Q E := by
  subst ei ej
  exact ⟨x, b, o, t, lo, hi, rfl, h, h8, ho, q⟩
/-- first one thing is read, then what follows -/
theorem Rd8.step {α β : Type} {r : DR α} {f : α → Nat → DR β} {k : β → Nat → Hp → Prop} {m : α → Nat → Hp → Prop} (h : Rd8 CDE H x (r.bind f) E k) (g : ∀ v o H', r = .ok v o → But x H H' → Rd8 CDE H' x (f v o) E k → m v o H') : Rd8 CDE H x r E m := by
  cases r with
  | ok v o =>
    refine fun H' B => g v o H' rfl B ?_
    have h : Rd8 CDE H x (f v o) E k := h
    cases e : f v o with
    | ok w q => rw [e] at h; exact fun H2 B2 => h H2 (B.trans B2)
    | er q => rw [e] at h; exact fun d H2 B2 hd => h d H2 (B.trans B2) hd
  | er o => exact h
theorem Rd8.but {α : Type} {r : DR α} {k : α → Nat → Hp → Prop} (h : Rd8 CDE H x r E k) (B : But x H H') : Rd8 CDE H' x r E k := by
  cases r with
  | ok w q => exact fun H2 B2 => h H2 (B.trans B2)
  | er q => exact fun d H2 B2 hd => h d H2 (B.trans B2) hd
theorem sqT_butL {xs ys : List V} (h : SqT K H a xs) (e : H l = some (.lst ys)) (B : But l H H') : SqT K H' a xs := by
  rcases h with (h | ⟨o, h⟩) | h
  · exact .inl (.inl (B _ _ (fun z => by subst z; rw [e] at h; cases h) h))
  · exact .inl (.inr ⟨o, B _ _ (fun z => by subst z; rw [e] at h; cases h) h⟩)
  · exact .inr h
theorem rd_extend {xs zs : List V} (e : H l = some (.lst xs)) (g : H p = some (.lst zs)) (hz : xs.length + zs.length ≤ sizeLine) (q : Q .non (upd H l (.lst (xs ++ zs)))) : rExtend (.ref l) [.ref p] H Q := ⟨l, p, xs, zs, rfl, rfl, e, g, hz, q⟩
theorem natV_app8 (a b : List Nat) : natV a ++ natV b = natV (a ++ b) := by unfold natV; rw [List.map_append]
theorem encW_natV {w : Str} : V.int 0 :: V.int (w.length : Nat) :: ((List.range (tl w).length).map fun i => V.int (((tl w)[i]?.getD 0 - 97 : Nat) : Nat)) = natV (encS (.wr w)) := by
  rw [map_range_get (fun o => V.int ((o.getD 0 - 97 : Nat) : Nat)) (fun c => V.int ((c - 97 : Nat) : Nat)) (fun _ => rfl) (tl w) rfl]
  show _ = V.int ((0 : Nat) : Nat) :: V.int ((tl w).length : Nat) :: ((tl w).map (· - 97)).map fun m : Nat => V.int (m : Nat)
  rw [List.map_map, ← len_tl]
  rfl
theorem take_sn {α : Type} {l : List α} {i : Nat} {a : α} (h : l[i]? = some a) : l.take (i + 1) = l.take i ++ [a] := by rw [List.take_add_one, h]; rfl
theorem rd_slA1b {z : V} {xs : List V} (h : SqT K H a (z :: xs)) (hx : xs.length ≤ 1000) (q : ∀ p H', Same H H' → SqT K H' p xs → Q (.ref p) H') : rSlA K (.ref a) (some 1) none H Q := by
  refine ⟨a, z :: xs, rfl, h, fun hw => ?_, fun hw p hp => ?_⟩
  · have hz : HT.sIx (z :: xs).length 0 (some ((1 : Nat) : Int)) = 0 := hw.1
    rw [sIx_le _ _ _ (by simp)] at hz
    cases hz
  · refine q p _ (Same.new (Same.refl _) hp) ?_
    have e : cutV (z :: xs) (some ((1 : Nat) : Int)) none = (z :: xs).drop 1 := cutV_from _ _
    rw [show (1 : Int) = ((1 : Nat) : Int) from rfl, e]
    exact SqT.of upd_same
theorem rd_mkOff {C : Addr} (ho : o < 1000000000) (h : ∀ d H', Same H H' → H' d = some (.xd [("offset", .int (o : Nat))]) → E (.ref C) (some d) H') : rMkO C (sp_xi1 C "offset") E [.int (o : Nat)] H :=
  rd_mk1 ho fun d hd => h d _ (Same.new (Same.refl _) hd) upd_same
/-- what is left of self.f += y, the field's value v -/
def rAugK (CD x : Addr) (f : Str) (v : V) (nx : Hp → Prop) : V → Hp → Prop := fun y H2 => rAdd v y H2 fun z H3 => ∃ dx' fs', H3 x = some (.ins CD dx' fs') ∧ fs'.length < 1000 ∧ nx (upd H3 x (.ins CD dx' (putF f z fs')))
theorem rd_augO {tv : TE} {σ : St} {nx bk ct : St → Hp → Prop} {rt : VK} (c : Cls K CD) (na : NoAttr K CD "offset") (hx : σ[0]? = some (some (.ref x))) (h : DcAt CD H x b o t) (hv : tv σ H (rAugK CD x "offset" (.int (o : Nat)) (nx σ))) :
    sFldAug K (tVar 0) tv rAdd "offset" ⟨nx, rt, bk, ct⟩ σ H := by
  obtain ⟨dx, e⟩ := h
  exact ⟨_, hx, x, CD, dx, _, _, rfl, e, c, na, dcF_lookO, hv⟩
theorem rd_augT {tv : TE} {σ : St} {nx bk ct : St → Hp → Prop} {rt : VK} (c : Cls K CD) (na : NoAttr K CD "total") (hx : σ[0]? = some (some (.ref x))) (h : DcAt CD H x b o t) (hv : tv σ H (rAugK CD x "total" (.int (t : Nat)) (nx σ))) :
    sFldAug K (tVar 0) tv rAdd "total" ⟨nx, rt, bk, ct⟩ σ H := by
  obtain ⟨dx, e⟩ := h
  exact ⟨_, hx, x, CD, dx, _, _, rfl, e, c, na, dcF_lookT, hv⟩
theorem rd_augO1 {nx : Hp → Prop} {j : Int} {n : Nat} (h : DcAt CD H x b o t) (ej : j = n) (q : ∀ H', But x H H' → DcAt CD H' x b (o + n) t → nx H') : rAugK CD x "offset" (.int (o : Nat)) nx (.int j) H := by
  obtain ⟨dx, e⟩ := h
  subst ej
  refine ⟨_, _, rfl, rfl, dx, _, e, dcF_len, q _ (But.at But.refl) ⟨dx, ?_⟩⟩
  rw [upd_same, show ((o : Nat) : Int) + ((n : Nat) : Int) = ((o + n : Nat) : Int) by omega, dcF_o]
theorem rd_augT1 {nx : Hp → Prop} {j : Int} {n : Nat} (h : DcAt CD H x b o t) (ej : j = n) (q : ∀ H', But x H H' → DcAt CD H' x b o (t + n) → nx H') : rAugK CD x "total" (.int (t : Nat)) nx (.int j) H := by
  obtain ⟨dx, e⟩ := h
  subst ej
  refine ⟨_, _, rfl, rfl, dx, _, e, dcF_len, q _ (But.at But.refl) ⟨dx, ?_⟩⟩
  rw [upd_same, show ((t : Nat) : Int) + ((n : Nat) : Int) = ((t + n : Nat) : Int) by omega, dcF_t]
theorem tk_byte {v : Nat} (h8 : Byt b) (hv : b[o]? = some v) : tkD b o 0 255 = .ok v (o + 1) := by
  unfold tkD
  rw [hv]
  show (if _ then _ else _) = _
  rw [if_pos ⟨Nat.zero_le _, h8.2 _ (List.mem_of_getElem? hv)⟩]
theorem tk_none {lo hi : Nat} (h : b.length ≤ o) : tkD b o lo hi = .er o := by unfold tkD; rw [List.getElem?_eq_none h]
theorem nmL_end {acc fac : Nat} (h : o = b.length) : nmL b (b.length - o) o acc fac = .er o := by subst h; rw [Nat.sub_self]; rfl
theorem nmL_step {acc fac v : Nat} (hv : b[o]? = some v) : nmL b (b.length - o) o acc fac = if v = 0 ∧ 1 < fac then .er o else if v < 128 then .ok (acc + v % 128 * fac) (o + 1) else nmL b (b.length - (o + 1)) (o + 1) (acc + v % 128 * fac) (fac * 128) := by
  have hl := (List.getElem?_eq_some_iff.mp hv).1
  obtain ⟨n, hn⟩ : ∃ n, b.length - o = n + 1 := ⟨b.length - o - 1, by omega⟩
  rw [hn, show b.length - (o + 1) = n by omega]
  show (match b[o]? with | none => _ | some v => _) = _
  rw [hv]
theorem DcAt.insM {m : Str} (h : DcAt CD H x b o t) (hm : ((dcF [] 0 0).map (·.1)).contains m = false := by decide +kernel) : InsM H x CD m := by
  obtain ⟨dx, e⟩ := h
  refine ⟨dx, _, e, ?_⟩
  have k : (dcF b o t).map (·.1) = (dcF [] 0 0).map (·.1) := rfl
  rw [← k] at hm
  exact List.lookup_eq_none_iff.mpr fun p hp => by
    have h2 : ((dcF b o t).map (·.1)).contains m = false := hm
    rw [List.contains_eq_mem, decide_eq_false_iff_not] at h2
    have : p.1 ≠ m := fun z => h2 (List.mem_map.mpr ⟨p, hp, z⟩)
    simpa using fun z => this z.symm
theorem rd_ifAndJ8 {t u : TT} {st su : TS} {D : Ends} {σ : St} {H : Hp} (P : Hp → Prop) (hb : ∀ Hc, P Hc → su D σ Hc) (h : (∀ Hc, P Hc → su D σ Hc) → tAnd t u σ H fun b H1 => if b = true then st D σ H1 else su D σ H1) : tIfS (tAnd t u) st su D σ H := h hb
theorem DR.assoc {α β γ : Type} (r : DR α) (f : α → Nat → DR β) (g : β → Nat → DR γ) : (r.bind f).bind g = r.bind fun v o => (f v o).bind g := by cases r <;> rfl
/-- the letters read from a place on -/
def letB (b : List Nat) (o i : Nat) : List Nat := (List.range i).map fun j => 97 + b[o + j]?.getD 0
theorem letB_snoc (b : List Nat) (o i : Nat) : letB b o (i + 1) = letB b o i ++ [97 + b[o + i]?.getD 0] := by unfold letB; rw [List.range_succ, List.map_append]; rfl
theorem low_at8 {v : Nat} (h : v ≤ 25) : (tl (Str.ofString "abcdefghijklmnopqrstuvwxyz"))[v]? = some (97 + v) := (by decide +kernel : ∀ v, v ≤ 25 → (tl (Str.ofString "abcdefghijklmnopqrstuvwxyz"))[v]? = some (97 + v)) v h
theorem letB_sgV (b : List Nat) (o n : Nat) : (List.range n).map (fun i => V.str ⟨#[97 + b[o + i]?.getD 0]⟩) = sgV (letB b o n) := by unfold sgV letB; rw [List.map_map]; rfl
theorem stpD_eq : stpD b o t = (tkD b o 0 1).bind fun v o1 => (if v = 0 then wrD b o1 else paD b o1 t).bind fun s o' => if 1000000000000000000 < t + len1 s then .er o else .ok s o' := DR.assoc _ _ _
theorem ltD_step {n o1 : Nat} {acc : List Nat} {v : Nat} (h : tkD b o1 0 25 = .ok v (o1 + 1)) : ltD b (n + 1) o1 acc = ltD b n (o1 + 1) (acc ++ [97 + v]) := by
  show (tkD b o1 0 25).bind _ = _
  rw [h]; rfl
theorem ltD_bad {n o1 : Nat} {acc : List Nat} {q : Nat} (h : tkD b o1 0 25 = .er q) : ltD b (n + 1) o1 acc = .er q := by
  show (tkD b o1 0 25).bind _ = _
  rw [h]; rfl
theorem rd_ifSJ8 {t : TT} {st su : TS} {nx bk ct : St → Hp → Prop} {rt : VK} {σ : St} {H : Hp} (P : St → Hp → Prop) (hj : ∀ σ' Hc, P σ' Hc → nx σ' Hc) (h : ∀ nx' : St → Hp → Prop, (∀ σ' Hc, P σ' Hc → nx' σ' Hc) → tIfS t st su ⟨nx', rt, bk, ct⟩ σ H) : tIfS t st su ⟨nx, rt, bk, ct⟩ σ H := h nx hj
theorem But.mutN {D : Addr} {u : HO} (B : But x H H') (hD : H D = none) : But x H (upd H' D u) := fun c v hc e => by rw [upd_ne (ne_of_none e hD)]; exact B c v hc e
theorem DcAt.upd {D : Addr} {u : HO} (h : DcAt CD H x b o t) (ne : x ≠ D) : DcAt CD (L2.upd H D u) x b o t := let ⟨dx, e⟩ := h; ⟨dx, by rw [upd_ne ne]; exact e⟩
theorem rd_mkDc (q : ∀ x H', Same H H' → H x = none → DcAt CD H' x b 0 0 → Q (.ref x) H') : rMk CD (sp_Decoder_init CD) E [byV b] H Q := by
  intro x dx nx nd ne
  have S1 : Same H (L2.upd (L2.upd H dx (.own x)) x (.ins CD dx [])) := Same.mut (Same.mut (Same.refl _) nd) nx
  exact ⟨x, dx, b, rfl, upd_same, fun H' B D => ⟨rfl, q x H' (fun c o e => B _ _ (ne_of_none e nx) (S1 _ _ e)) nx D⟩⟩
theorem sqT_butI {xs : List V} (h : SqT K H a xs) (D : DcAt CD H x b o t) (B : But x H H') : SqT K H' a xs := by
  obtain ⟨dx, e⟩ := D
  rcases h with (h | ⟨u, h⟩) | h
  · exact .inl (.inl (B _ _ (fun z => by rw [z, e] at h; cases h) h))
  · exact .inl (.inr ⟨u, B _ _ (fun z => by rw [z, e] at h; cases h) h⟩)
  · exact .inr h
theorem steps_butI {ms : List V} (h : StepsAt K H ms ss) (D : DcAt CD H x b o t) (B : But x H H') : StepsAt K H' ms ss := ⟨h.1, fun j s q => let ⟨v, a, c, d, f⟩ := h.2 j s q; ⟨v, a, c, d, sqT_butI f D B⟩⟩
theorem But.sameN (S : Same H H1) (n : H x = none) (B : But x H1 H') : Same H H' := fun c u e => B c u (ne_of_none e n) (S c u e)
theorem ssD_step {n o1 t1 : Nat} {acc : List Stp} : ssD b (n + 1) o1 t1 acc = (stpD b o1 t1).bind fun s o' => ssD b n o' (t1 + len1 s) (acc ++ [s]) := rfl
end
section
variable {J : It} {n : Nat} {it : Nat → V} {H1 : Hp} {te : TE} {vs : List Nat} {σ : St} {D : Addr} {Qd : Hp → Prop} {j : Nat}
/-- a comprehension whose state tells the answers so far -/
theorem lc_stL (Ps : Nat → List V → Hp → Prop) (P : ∀ i ys H, Ps i ys H → Plain J n it H) (h0 : Ps 0 [] (upd H1 D (.lst []))) (hn : n ≤ sizeLine) (hj : ∀ v, wipe ((wipe σ vs).set j (some v)) vs = wipe σ vs)
    (hput : ∀ i ys ws zs H, Ps i ys H → H D = some (.lst ws) → Ps i ys (upd H D (.lst zs)))
    (hs : ∀ i ys H (Q : VK), i < n → Ps i ys H → H D = some (.lst ys) → (∀ v H', Ps (i + 1) (ys ++ [v]) H' → H' D = some (.lst ys) → Q v H') → te ((wipe σ vs).set j (some (it i))) H Q)
    (hd : ∀ ys H, Ps n ys H → H D = some (.lst ys) → Qd H) : LcW J (gName j) tYes te vs σ H1 D Qd := by
  refine ⟨fun i m H => m = n - i ∧ i ≤ n ∧ ∃ ys, Ps i ys H ∧ H D = some (.lst ys) ∧ ys.length = i, ⟨_, rfl, Nat.zero_le _, [], h0, upd_same, rfl⟩, ?_⟩
  rintro i m H ⟨rfl, hi, ys, S, eD, hl⟩
  have PP := P i ys H S
  by_cases hlt : i < n
  · refine .inr ⟨PP.go i H (Same.refl _) hlt, fun H' => i + 1 ≤ n ∧ ∃ ys, Ps (i + 1) ys H' ∧ H' D = some (.lst ys) ∧ ys.length = i + 1, fun H' z => ⟨n - (i + 1), by omega, rfl, z⟩, fun x H' y => ?_⟩
    obtain ⟨e1, e2⟩ := PP.yld i H x H' (Same.refl _) hlt y
    subst e1 e2
    refine ⟨hj _, ?_⟩
    refine rd_yes (iteT ?_)
    refine hs i ys H' _ hlt S eD fun v H2 S2 e2 => ⟨ys, e2, by omega, hlt, ys ++ [v], hput _ _ _ _ _ S2 e2, upd_same, by simp [hl]⟩
  · have e : i = n := by omega
    subst e
    exact .inl ⟨PP.stop H (Same.refl _), hd ys H S eD⟩
end
end L2.Px
set_option Elab.async false
set_option linter.all false
set_option maxRecDepth 100000
set_option maxHeartbeats 1000000
namespace L2.Px
open PySem PySem.Spec PyProof.Rows StX
end L2.Px
set_option Elab.async false
set_option linter.all false
set_option maxRecDepth 100000
set_option maxHeartbeats 4000000
namespace L2.Px
open PySem PySem.Spec PyProof.Rows PySem.Froz
end L2.Px
set_option Elab.async false
set_option linter.all false
set_option maxRecDepth 100000
set_option maxHeartbeats 2000000
namespace L2.Px
open PySem PySem.Spec PyProof.Rows StX TL
end L2.Px
namespace L2.Px
open PySem PySem.Spec PyProof.Rows StX TL
end L2.Px
namespace L2.Px
open PySem PySem.Spec PyProof.Rows StX TL
end L2.Px
set_option Elab.async false
set_option linter.all false
set_option maxRecDepth 100000
set_option maxHeartbeats 2000000
namespace L2.Px
open PySem PySem.Spec PyProof.Rows StX TL
/-- the list at l holds lists, all of them new since H0 -/
structure ClsN (H0 H : Hp) (l : Addr) (cs : List (List Nat)) : Prop where
  new : H0 l = none
  at_ : ∃ as : List Addr, H l = some (.lst (as.map V.ref)) ∧ as.length = cs.length ∧ ∀ (i : Nat) c, cs[i]? = some c → ∃ a, as[i]? = some a ∧ H a = some (.lst (natV c)) ∧ H0 a = none
section
variable {K : PySem.W.Frag} {CI CT CP : Addr} {H H' H0 H1 : Hp} {a b l r p D : Addr} {L M : List Nat} {Q : VK} {E : XK} {cs : List (List Nat)} {n : Nat} {f : Nat → Nat} {cl : Nat → Addr} {i j : Int} {ss tt : List Stp} {ch : List (Nat × Nat)}
theorem ClsN.cls (h : ClsN H0 H l cs) : ClsAt H l cs := let ⟨_, as, e, n, g⟩ := h; ⟨as, e, n, fun i c hc => let ⟨a, x, y, _⟩ := g i c hc; ⟨a, x, y⟩⟩
theorem ClsN.mono (h : ClsN H0 H l cs) (S : Same H H') : ClsN H0 H' l cs := let ⟨z, as, e, n, g⟩ := h; ⟨z, as, S _ _ e, n, fun i c hc => let ⟨a, x, y, w⟩ := g i c hc; ⟨a, x, S _ _ y, w⟩⟩
variable (K CI CT CP)
variable {K CI CT CP}
end
end L2.Px
set_option Elab.async false
set_option linter.all false
set_option maxRecDepth 100000
set_option maxHeartbeats 2000000
namespace L2.Px
open PySem PySem.Spec PyProof.Rows StX TL
/-- a list of these four items could be taken for a row only if its first item is a number -/
def goodL (ds : List PyData) : Prop := ∀ d0 i j k, ds = [d0, .int i, .int j, .int k] → ∃ n, d0 = .int n
/-- v is the data d, to a depth; made of numbers, texts, tuples, lists -/
def Dd (K : PySem.W.Frag) (H : Hp) : Nat → V → PyData → Prop
  | 0, _, _ => False
  | n + 1, v, d => (∃ i, v = .int i ∧ d = .int i) ∨ (∃ x, v = .str x ∧ d = .str x ∧ x.length ≤ sizeLine) ∨
    (∃ a xs ds, v = .ref a ∧ d = .tuple ds ∧ SqT K H a xs ∧ xs.length = ds.length ∧ xs.length ≤ sizeLine ∧ ∀ (i : Nat) x e, xs[i]? = some x → ds[i]? = some e → Dd K H n x e) ∨
    ∃ a xs ds, v = .ref a ∧ d = .list ds ∧ H a = some (.lst xs) ∧ goodL ds ∧ xs.length = ds.length ∧ xs.length ≤ sizeLine ∧ ∀ (i : Nat) x e, xs[i]? = some x → ds[i]? = some e → Dd K H n x e
section
variable {K : PySem.W.Frag} {H H' : Hp} {a b : Addr} {xs : List V} {ds : List PyData} {Q : VK} {E : XK}
theorem Dd.mono (S : Same H H') : ∀ {n : Nat} {v : V} {d : PyData}, Dd K H n v d → Dd K H' n v d
  | 0, _, _, h => h.elim
  | n + 1, _, _, h => by
    rcases h with h | h | ⟨a, xs, ds, h1, h2, h3, h4, h5, h6⟩ | ⟨a, xs, ds, h1, h2, h3, h4, h5, h6, h7⟩
    · exact .inl h
    · exact .inr (.inl h)
    · exact .inr (.inr (.inl ⟨a, xs, ds, h1, h2, Same.tup S h3, h4, h5, fun i x e p q => Dd.mono S (h6 i x e p q)⟩))
    · exact .inr (.inr (.inr ⟨a, xs, ds, h1, h2, S _ _ h3, h4, h5, h6, fun i x e p q => Dd.mono S (h7 i x e p q)⟩))
theorem Dd.ref_no {n : Nat} {i : Int} (h : Dd K H n (.ref a) (.int i)) : False := by
  cases n with
  | zero => exact h
  | succ n => rcases h with ⟨_, z, _⟩ | ⟨_, z, _⟩ | ⟨_, _, _, _, z, _⟩ | ⟨_, _, _, _, z, _⟩ <;> cases z
theorem Dd.int_at {n : Nat} {i : Int} {d : PyData} (h : Dd K H n (.int i) d) : d = .int i := by
  cases n with
  | zero => exact h.elim
  | succ n => rcases h with ⟨_, z, e⟩ | ⟨_, z, _⟩ | ⟨_, _, _, z, _⟩ | ⟨_, _, _, z, _⟩ <;> cases z; exact e
theorem dd_norow {n : Nat} (g : goodL ds) (hl : xs.length = ds.length) (h : ∀ (i : Nat) x e, xs[i]? = some x → ds[i]? = some e → Dd K H n x e) : ¬ isRow (.lst xs) := by
  intro z
  unfold isRow at z
  split at z
  · rename_i e1
    cases e1
    match ds, hl with
    | [d0, d1, d2, d3], _ =>
      have h0 := h 0 _ _ rfl rfl
      have h1 := h 1 _ _ rfl rfl
      have h2 := h 2 _ _ rfl rfl
      have h3 := h 3 _ _ rfl rfl
      have e1 := h1.int_at
      have e2 := h2.int_at
      have e3 := h3.int_at
      subst e1 e2 e3
      obtain ⟨m, rfl⟩ := g _ _ _ _ rfl
      exact h0.ref_no
  · exact z
theorem Dd.kp (k : Kp H H') : ∀ {n : Nat} {v : V} {d : PyData}, Dd K H n v d → Dd K H' n v d
  | 0, _, _, h => h.elim
  | n + 1, _, _, h => by
    rcases h with h | h | ⟨a, xs, ds, h1, h2, h3, h4, h5, h6⟩ | ⟨a, xs, ds, h1, h2, h3, h4, h5, h6, h7⟩
    · exact .inl h
    · exact .inr (.inl h)
    · exact .inr (.inr (.inl ⟨a, xs, ds, h1, h2, k.tup h3, h4, h5, fun i x e p q => Dd.kp k (h6 i x e p q)⟩))
    · exact .inr (.inr (.inr ⟨a, xs, ds, h1, h2, k _ _ (dd_norow h4 h5 h7) h3, h4, h5, h6, fun i x e p q => Dd.kp k (h7 i x e p q)⟩))
end
end L2.Px
set_option Elab.async false
set_option linter.all false
set_option maxRecDepth 100000
set_option maxHeartbeats 2000000
namespace L2.Px
open PySem PySem.Spec PyProof.Rows StX TL
section
variable {K : PySem.W.Frag} {CI CT CP : Addr} {H H' H0 H1 : Hp} {a b l r p D T : Addr} {L M : List Nat} {Q : VK} {E : XK} {cs : List (List Nat)} {n m : Nat} {f : Nat → Nat} {ss tt : List Stp} {ch : List (Nat × Nat)} {v w : V} {d e : PyData} {xs : List V} {ds : List PyData}
theorem Dd.int (i : Int) : Dd K H (n + 1) (.int i) (.int i) := .inl ⟨i, rfl, rfl⟩
theorem Dd.str {x : Str} (h : x.length ≤ sizeLine) : Dd K H (n + 1) (.str x) (.str x) := .inr (.inl ⟨x, rfl, rfl, h⟩)
theorem Dd.lst (h : H l = some (.lst xs)) (g : goodL ds) (hl : xs.length = ds.length) (hz : xs.length ≤ 16777216) (q : ∀ (i : Nat) x e, xs[i]? = some x → ds[i]? = some e → Dd K H n x e) : Dd K H (n + 1) (.ref l) (.list ds) :=
  .inr (.inr (.inr ⟨l, xs, ds, rfl, rfl, h, g, hl, by rw [sizeLine_eq]; exact hz, q⟩))
theorem Dd.tup (h : SqT K H l xs) (hl : xs.length = ds.length) (hz : xs.length ≤ 16777216) (q : ∀ (i : Nat) x e, xs[i]? = some x → ds[i]? = some e → Dd K H n x e) : Dd K H (n + 1) (.ref l) (.tuple ds) :=
  .inr (.inr (.inl ⟨l, xs, ds, rfl, rfl, h, hl, by rw [sizeLine_eq]; exact hz, q⟩))
end
end L2.Px
namespace L2.Px
open PySem PySem.Spec PyProof.Rows StX TL
/-- a new list, not p -/
def FrL (p : Addr) (H0 H : Hp) (l : Addr) : Prop := H0 l = none ∧ l ≠ p ∧ ∃ xs : List V, H l = some (.lst xs) ∧ xs.length ≤ 10000
/-- a new list of new lists -/
def FrC (p : Addr) (H0 H : Hp) (l : Addr) : Prop := FrL p H0 H l ∧ ∃ ms : List Addr, H l = some (.lst (ms.map V.ref)) ∧ ms.length ≤ 10000 ∧ ∀ m ∈ ms, FrL p H0 H m
section
variable {K : PySem.W.Frag} {CI CT CP : Addr} {H H' H0 H1 : Hp} {a b l r p D T : Addr} {L M : List Nat} {Q : VK} {E : XK} {cs : List (List Nat)} {n m : Nat} {f : Nat → Nat} {ss tt : List Stp} {ch : List (Nat × Nat)} {σ : St}
theorem FrL.mono (h : FrL p H0 H l) (S : Same H H') : FrL p H0 H' l := let ⟨a, b, xs, e, z⟩ := h; ⟨a, b, xs, S _ _ e, z⟩
theorem FrC.mono (h : FrC p H0 H l) (S : Same H H') : FrC p H0 H' l := let ⟨a, ms, e, z, g⟩ := h; ⟨a.mono S, ms, S _ _ e, z, fun m hm => (g m hm).mono S⟩
theorem FrL.mk {Hx : Hp} {xs : List V} (S : Same H Hx) (np : Hx p = none) (n : H0 l = none) (h : H l = some (.lst xs)) (hz : xs.length ≤ 10000) : FrL p H0 H l := ⟨n, ne_of_none (S _ _ h) np, xs, h, hz⟩
variable (K CT CP)
end
end L2.Px
set_option Elab.async false
set_option linter.all false
set_option maxRecDepth 100000
set_option maxHeartbeats 1000000
namespace L2.Px
open PySem PySem.Spec PyProof.Rows StX TL ClX LamX
end L2.Px
namespace L2.Px
open PySem PySem.Spec PyProof.Rows StX TL ClX LamX
section
variable {K : PySem.W.Frag} {CT CP : Addr} {H : Hp} {Q : VK} {l : Addr} {σ : St} {L M : List Nat} {ss : List Stp}
/-- a list of new pairs (text of one sign, number) -/
def PrsAt (H : Hp) (l : Addr) (cs : List Nat) (g : Nat → Nat) : Prop := ∃ xs, H l = some (.lst xs) ∧ xs.length = cs.length ∧ ∀ (i : Nat) (c : Nat), cs[i]? = some c → ∃ T, xs[i]? = some (V.ref T) ∧ H T = some (.tup [.str ⟨#[c]⟩, .int (g c : Nat)])
theorem PrsAt.mono {H' : Hp} {cs : List Nat} {g : Nat → Nat} (h : PrsAt H l cs g) (S : Same H H') : PrsAt H' l cs g :=
  let ⟨xs, e, hl, hx⟩ := h; ⟨xs, S _ _ e, hl, fun i c hc => let ⟨T, a, b⟩ := hx i c hc; ⟨T, a, S _ _ b⟩⟩
end
end L2.Px
namespace L2.Px
open PySem PySem.Spec PyProof.Rows StX TL ClX LamX
end L2.Px
namespace L2.Px
open PySem PySem.Spec PyProof.Rows StX TL ClX LamX
end L2.Px
namespace L2.Px
open PySem PySem.Spec PyProof.Rows StX TL ClX LamX
/-- v is a pair that is no range -/
def BadR (K : PySem.W.Frag) (H : Hp) (ss : List Stp) (v : V) : Prop := ∃ b x y, v = .ref b ∧ SqT K H b [x, y] ∧ NoSeq x ∧ NoSeq y ∧ NoRng ss x y
section
variable {K : PySem.W.Frag} {H H' : Hp} {b : Addr} {ss : List Stp} {v x y : V} {T : List (Addr × Str)}
theorem BadR.mono (h : BadR K H ss v) (S : Same H H') : BadR K H' ss v := let ⟨b, x, y, e, q, r⟩ := h; ⟨b, x, y, e, Same.tup S q, r⟩
end
end L2.Px
set_option Elab.async false
set_option linter.all false
set_option maxRecDepth 100000
set_option maxHeartbeats 1000000
namespace L2.Px
open PySem PySem.Spec PyProof.Rows StX TL ClX LamX
end L2.Px
set_option Elab.async false
set_option linter.all false
set_option maxRecDepth 100000
set_option maxHeartbeats 1000000
namespace L2.Px
open PySem PySem.Spec PyProof.Rows StX TL
theorem ChAt.kp {K : PySem.W.Frag} {H H' : Hp} {l : Addr} {cs : List (Nat × Nat)} {n : Nat} (h : ChAt K H l cs n) (k : Kp H H') : ChAt K H' l cs n := by
  obtain ⟨xs, e, hl, hx⟩ := h
  refine ⟨xs, k.keep _ _ (fun hr => ?_) e, hl, fun i c hc => ?_⟩
  · match xs, hr with
    | [.ref _, .int _, .int _, .int _], _ =>
      obtain ⟨_, _, _, T, eT, _⟩ := hx 1 (cs[1]'(by simp at hl; omega)) (List.getElem?_eq_getElem _)
      cases eT
  · obtain ⟨a, b, d, T, eT, q⟩ := hx i c hc
    exact ⟨a, b, d, T, eT, k.keep _ _ nr_tup q⟩
end L2.Px
set_option Elab.async false
set_option linter.all false
set_option maxRecDepth 100000
set_option maxHeartbeats 1000000
namespace L2.Px
open PySem PySem.Spec PyProof.Rows StX TL
/-- a word or None -/
def WV (v : V) : Prop := (∃ z : Str, v = .str z ∧ z.length ≤ 100 ∧ ∀ c ∈ tl z, c ≤ 122) ∨ v = .non
/-- a number or a bool -/
def NB (v : V) : Prop := (∃ i : Int, v = .int i) ∨ ∃ b : Bool, v = .bl b
def StF (xs : List V) : Prop := (∃ v, xs = [.str "write", v] ∧ WV v) ∨ ∃ a b c, xs = [.str "paste", a, b, c] ∧ NB a ∧ NB b ∧ NB c
theorem StF.head {xs : List V} (h : StF xs) : ∃ z r, xs = .str z :: r ∧ z ≠ "retype" := by
  rcases h with ⟨v, rfl, _⟩ | ⟨a, b, c, rfl, _⟩
  · exact ⟨_, _, rfl, by decide +kernel⟩
  · exact ⟨_, _, rfl, by decide +kernel⟩
inductive Due where
  | num (n : Nat)
  | step (n : Nat)
  | place
  | letter
def dueL : Due → List V
  | .num _ => []
  | .step n => [.str "error", .str "InvalidStep", .int (n : Nat)]
  | .place => [.str "error", .str "InvalidPlace"]
  | .letter => [.str "error", .str "InvalidLetter"]
def dueAt (K : PySem.W.Frag) (H : Hp) (v : V) : Due → Prop
  | .num n => v = .int (n : Nat)
  | d => ∃ p, v = .ref p ∧ H p = some (.tup (dueL d))
/-- what is due of an operation, its values xs, on the text of ss; the steps behind it; the operation in effect -/
inductive AftR (ss : List Stp) (xs : List V) : Due → List Stp → List Op → Prop
  | ok (o : Op) (eo : xs = opV o) (h : okOp ss o) : AftR ss xs (.num (opN ss o)) (aft ss o) [o]
  | step (f : StF xs) (h : ss.length = 30 ∨ isSt (sz ss : Nat) xs = false) : AftR ss xs (.step ss.length) ss []
  | place (p l : V) (eo : xs = [.str "retype", p, l]) (hp : NB p ∨ p = .non) (hl : WV l) (h : isInt 0 ((sz ss : Int) - 1) p = false) : AftR ss xs .place ss []
  | letter (p l : V) (eo : xs = [.str "retype", p, l]) (hp : NB p ∨ p = .non) (hl : WV l) (h : isInt 0 ((sz ss : Int) - 1) p = true) (g : isLet l = false) : AftR ss xs .letter ss []
section
variable {K : PySem.W.Frag} {CT CP CE : Addr} {H H' : Hp} {Q : VK} {E : XK} {r l a b : Addr} {i j : Int} {ms ns xs : List V} {ss ss' : List Stp} {d : Due} {os : List Op} {v : V}
theorem dueAt.mono (h : dueAt K H v d) (S : Same H H') : dueAt K H' v d := by
  cases d with
  | num n => exact h
  | step n => obtain ⟨p, e, q⟩ := h; exact ⟨p, e, S _ _ q⟩
  | place => obtain ⟨p, e, q⟩ := h; exact ⟨p, e, S _ _ q⟩
  | letter => obtain ⟨p, e, q⟩ := h; exact ⟨p, e, S _ _ q⟩
theorem OpsAt.refs41 (h : OpsAt K H ms os) : ∀ v ∈ ms, isRef v = true := by
  intro v hv
  obtain ⟨j, hj⟩ := List.getElem?_of_mem hv
  have hl : j < os.length := by rw [← h.1]; exact (List.getElem?_eq_some_iff.mp hj).1
  obtain ⟨u, e, a, rfl, _⟩ := h.2 j _ (List.getElem?_eq_getElem hl)
  rw [hj] at e
  cases e
  rfl
end
section
variable {K : PySem.W.Frag} {CT CP CE C : Addr} {T : List (Addr × Str)} {H H' : Hp} {r le ld : Addr} {ms ns : List V} {ss : List Stp} {os : List Op}
/-- what the law holds: its dice, the names, its steps and its operations -/
structure LiS (K : PySem.W.Frag) (T : List (Addr × Str)) (H : Hp) (r le ld : Addr) (ms ns : List V) (ss : List Stp) (os : List Op) : Prop where
  row : RowAt K H r
  tab : LamX.Tabs T H
  el : H le = some (.lst ms)
  st : StepsAt K H ms ss
  dl : H ld = some (.lst ns)
  ops : OpsAt K H ns os
theorem LiS.km (h : LiS K T H r le ld ms ns ss os) (k : Km C T H H') (row : RowAt K H' r) : LiS K T H' r le ld ms ns ss os :=
  ⟨row, k.tabs h.tab, k.li (nr_refs h.st.refs) h.el, h.st.km k, k.li (nr_refs h.ops.refs41) h.dl, h.ops.1, fun j o q => let ⟨v, a, b, c, e⟩ := h.ops.2 j o q; ⟨v, a, b, c, k.tup e⟩⟩
theorem LiS.same (h : LiS K T H r le ld ms ns ss os) (k : Same H H') : LiS K T H' r le ld ms ns ss os := h.km (C := r) (.same k) (h.row.mono k)
theorem LiS.kp (h : LiS K T H r le ld ms ns ss os) (k : Kp H H') (row : RowAt K H' r) : LiS K T H' r le ld ms ns ss os := h.km (C := r) (.kp k) row
theorem LiS.but {x dx : Addr} {fs : List (Str × V)} (h : LiS K T H r le ld ms ns ss os) (b : But x H H') (e : H x = some (.ins CE dx fs)) : LiS K T H' r le ld ms ns ss os := h.km (Km.but (C := CE) b e) (h.row.but b e)
end
theorem dueAt.km {K : PySem.W.Frag} {C : Addr} {T : List (Addr × Str)} {H H' : Hp} {v : V} {d : Due} (h : dueAt K H v d) (k : Km C T H H') : dueAt K H' v d := by
  cases d with
  | num n => exact h
  | step n => obtain ⟨p, e, q⟩ := h; exact ⟨p, e, k.tu q⟩
  | place => obtain ⟨p, e, q⟩ := h; exact ⟨p, e, k.tu q⟩
  | letter => obtain ⟨p, e, q⟩ := h; exact ⟨p, e, k.tu q⟩
theorem dueAt.ref {K : PySem.W.Frag} {H : Hp} {v : V} {d : Due} (h : dueAt K H v d) (hd : ∀ n, d ≠ .num n) : ∃ p, v = .ref p ∧ SqT K H p (dueL d) := by
  cases d with
  | num n => exact absurd rfl (hd n)
  | step n => obtain ⟨p, e, q⟩ := h; exact ⟨p, e, SqT.of q⟩
  | place => obtain ⟨p, e, q⟩ := h; exact ⟨p, e, SqT.of q⟩
  | letter => obtain ⟨p, e, q⟩ := h; exact ⟨p, e, SqT.of q⟩
theorem AftR.ops {ss ss' : List Stp} {xs : List V} {d : Due} {os : List Op} (h : AftR ss xs d ss' os) : ((∃ n, d = .num n) ∧ ∃ o, os = [o] ∧ xs = opV o ∧ okOp ss o) ∨ ((∀ n, d ≠ .num n) ∧ os = []) := by
  cases h with
  | ok o eo h => exact .inl ⟨⟨_, rfl⟩, o, rfl, eo, h⟩
  | step f h => exact .inr ⟨fun n z => (by cases z), rfl⟩
  | place p l eo hp hl h => exact .inr ⟨fun n z => (by cases z), rfl⟩
  | letter p l eo hp hl h g => exact .inr ⟨fun n z => (by cases z), rfl⟩
end L2.Px
set_option Elab.async false
set_option linter.all false
set_option maxRecDepth 100000
set_option maxHeartbeats 1000000
namespace L2.Px
open PySem PySem.Spec PyProof.Rows StX TL
theorem take_add {os : List Op} {k j : Nat} {o : Op} (hk : k ≤ os.length) (hj : j ≤ k) : (os.take k ++ [o]).take j = os.take j := by
  rw [List.take_append_of_le_length (by rw [List.length_take]; omega), List.take_take, Nat.min_eq_left hj]
/-- the rows: each text's steps -/
def RowsAt (K : PySem.W.Frag) (H : Hp) (rs : List V) (ss0 : List Stp) (os : List Op) : Prop := rs.length = os.length + 1 ∧ ∀ j, j ≤ os.length → ∃ l ms, rs[j]? = some (V.ref l) ∧ H l = some (.lst ms) ∧ StepsAt K H ms (runB ss0 (os.take j))
section
variable {K : PySem.W.Frag} {CE C : Addr} {T : List (Addr × Str)} {H H' : Hp} {r lr ld l : Addr} {rs ns ms : List V} {ss0 : List Stp} {os : List Op} {k : Nat} {o : Op}
theorem RowsAt.refs (h : RowsAt K H rs ss0 os) : ∀ v ∈ rs, isRef v = true := by
  intro v hv
  obtain ⟨j, hj⟩ := List.getElem?_of_mem hv
  have hl : j ≤ os.length := by have := (List.getElem?_eq_some_iff.mp hj).1; have := h.1; omega
  obtain ⟨l, ms, e, _⟩ := h.2 j hl
  rw [hj] at e
  cases e
  rfl
theorem RowsAt.km (h : RowsAt K H rs ss0 os) (e : Km C T H H') : RowsAt K H' rs ss0 os := ⟨h.1, fun j hj => let ⟨l, ms, a, b, c⟩ := h.2 j hj; ⟨l, ms, a, e.li (nr_refs c.refs) b, c.km e⟩⟩
/-- what the law of undo and redo holds -/
structure RoS (K : PySem.W.Frag) (T : List (Addr × Str)) (H : Hp) (r lr ld : Addr) (rs ns : List V) (ss0 : List Stp) (os : List Op) : Prop where
  row : RowAt K H r
  tab : LamX.Tabs T H
  rl : H lr = some (.lst rs)
  rows : RowsAt K H rs ss0 os
  dl : H ld = some (.lst ns)
  ops : OpsAt K H ns os
theorem RoS.km (h : RoS K T H r lr ld rs ns ss0 os) (e : Km C T H H') (row : RowAt K H' r) : RoS K T H' r lr ld rs ns ss0 os :=
  ⟨row, e.tabs h.tab, e.li (nr_refs h.rows.refs) h.rl, h.rows.km e, e.li (nr_refs h.ops.refs41) h.dl, h.ops.1, fun j o q => let ⟨v, a, b, c, d⟩ := h.ops.2 j o q; ⟨v, a, b, c, e.tup d⟩⟩
theorem RoS.same (h : RoS K T H r lr ld rs ns ss0 os) (e : Same H H') : RoS K T H' r lr ld rs ns ss0 os := h.km (C := r) (.same e) (h.row.mono e)
theorem RoS.kp (h : RoS K T H r lr ld rs ns ss0 os) (e : Kp H H') (row : RowAt K H' r) : RoS K T H' r lr ld rs ns ss0 os := h.km (C := r) (.kp e) row
theorem RoS.but {x dx : Addr} {fs : List (Str × V)} (h : RoS K T H r lr ld rs ns ss0 os) (b : But x H H') (e : H x = some (.ins CE dx fs)) : RoS K T H' r lr ld rs ns ss0 os := h.km (Km.but (C := CE) b e) (h.row.but b e)
end
end L2.Px
set_option Elab.async false
set_option linter.all false
set_option maxRecDepth 100000
set_option maxHeartbeats 1000000
namespace L2.Px
open PySem PySem.Spec PyProof.Rows StX TL
section
variable {K : PySem.W.Frag} {CT CP CE : Addr} {G H : Hp} {Q : VK} {l l' : Addr} {ms ms' : List V} {ss : List Stp} {os : List Op}
theorem rd_addLk {a b : Addr} {xs ys : List V} (ha : H a = some (.lst xs)) (hb : H b = some (.lst ys)) (hz : xs.length + ys.length ≤ sizeLine) (q : ∀ p H', Same H H' → H p = none → H' p = some (.lst (xs ++ ys)) → Q (.ref p) H') : rAddA K (.ref a) (.ref b) H Q :=
  rd_add_lst ha hb hz fun p hp => q p _ (Same.new (Same.refl _) hp) hp upd_same
end
end L2.Px
set_option Elab.async false
set_option linter.all false
set_option maxRecDepth 100000
set_option maxHeartbeats 1000000
namespace L2.Px
open PySem PySem.Spec PyProof.Rows StX TL ClX LamX
def Er49 (H : Hp) (v : V) (k : Nat) : Prop := ∃ l p, v = .ref l ∧ H l = some (.lst [.ref p]) ∧ H p = some (.tup [.str "error", .str "DecodeError", .int (k : Nat)])
def Tk49 (H : Hp) (v : V) (r : DR Nat) : Prop := match r with
  | .ok n o => ∃ p, v = .ref p ∧ H p = some (.tup [.int (n : Nat), .int (o : Nat)])
  | .er k => Er49 H v k
def St49 (K : PySem.W.Frag) (H : Hp) (v : V) (r : DR Stp) : Prop := match r with
  | .ok s o => ∃ p q, v = .ref p ∧ H p = some (.tup [.ref q, .int (o : Nat)]) ∧ StepAt K H (.ref q) s
  | .er k => Er49 H v k
def Du49 (K : PySem.W.Frag) (H : Hp) (v : V) (r : DR (List Stp)) : Prop := match r with
  | .ok ss _ => ∃ p, v = .ref p ∧ TS' K H p ss
  | .er k => ∃ p, v = .ref p ∧ H p = some (.tup [.str "error", .str "DecodeError", .int (k : Nat)])
/-- a byte, anywhere -/
def tkC (b : List Nat) (o lo hi : Nat) : DR Nat := match b[o]? with
  | some v => if lo ≤ v ∧ v ≤ hi then .ok v (o + 1) else .er o
  | none => .er (min o b.length)
theorem tkC_le {b : List Nat} {o lo hi : Nat} (h : o ≤ b.length) : tkC b o lo hi = tkD b o lo hi := by
  unfold tkC tkD
  cases e : b[o]? with
  | some v => rfl
  | none => rw [Nat.min_eq_left h]
section
variable (K : PySem.W.Frag)
def sp_x_law_groups : Sp := fun vs H Q _ => ∃ n : Nat, vs = [.int (n : Nat)] ∧ n ≤ 1000000000000000000 ∧ ∀ l H', Same H H' → H l = none → H' l = some (.lst (natV (grpN n))) → Q (.ref l) H'
def sp_x_law_closed : Sp := fun vs H Q _ => ∃ l L, vs = [.ref l] ∧ H l = some (.lst (natV L)) ∧ L.length ≤ 100000 ∧ ∀ p H', Same H H' → H p = none → H' p = some (.lst (natV (L ++ [ckS L]))) → Q (.ref p) H'
def sp_x_law_values : Sp := fun vs H Q _ => ∃ l ms ss, vs = [.ref l] ∧ H l = some (.lst ms) ∧ StepsAt K H ms ss ∧ okFrom 0 ss ∧ ss.length ≤ 30 ∧ ∀ p H', Same H H' → H p = none → H' p = some (.lst (natV (encV ss))) → Q (.ref p) H'
def sp_x_law_take : Sp := fun vs H Q _ => ∃ (l : Addr) (b : List Nat) (o lo hi : Nat), vs = [.ref l, .int (o : Nat), .int (lo : Nat), .int (hi : Nat)] ∧ H l = some (.lst (natV b)) ∧ Byt b ∧ ∀ v H', Same H H' → Tk49 H' v (tkC b o lo hi) → Q v H'
def sp_x_law_number : Sp := fun vs H Q _ => ∃ (l : Addr) (b : List Nat) (o lo hi : Nat), vs = [.ref l, .int (o : Nat), .int (lo : Nat), .int ((hi : Nat) - 1)] ∧ H l = some (.lst (natV b)) ∧ Byt b ∧ o ≤ b.length ∧ ∀ v H', Same H H' → Tk49 H' v (nmD b o lo hi) → Q v H'
def sp_x_law_one : Sp := fun vs H Q _ => ∃ (l : Addr) (b : List Nat) (o t : Nat), vs = [.ref l, .int (o : Nat), .int (t : Nat)] ∧ H l = some (.lst (natV b)) ∧ Byt b ∧ o ≤ b.length ∧ t ≤ 1000000000000000000 ∧ ∀ v H', Same H H' → St49 K H' v (spD b o t) → Q v H'
def sp_x_law_decoded : Sp := fun vs H Q _ => ∃ (l : Addr) (b : List Nat), vs = [.ref l] ∧ H l = some (.lst (natV b)) ∧ Byt b ∧ ∀ v H', Same H H' → Du49 K H' v (decD b) → Q v H'
end
section
variable {K : PySem.W.Frag} {H H' H1 : Hp} {Q : VK} {E : XK} {l p : Addr} {b L : List Nat} {o t lo hi : Nat} {ss : List Stp} {v u : V} {T : List (Addr × Str)}
theorem Er49.mono {k : Nat} (h : Er49 H v k) (S : Same H H') : Er49 H' v k := let ⟨l, p, a, c, d⟩ := h; ⟨l, p, a, S _ _ c, S _ _ d⟩
theorem Tk49.mono {r : DR Nat} (h : Tk49 H v r) (S : Same H H') : Tk49 H' v r := by
  cases r with
  | ok n o => obtain ⟨p, a, c⟩ := h; exact ⟨p, a, S _ _ c⟩
  | er k => exact Er49.mono h S
theorem Du49.mono {r : DR (List Stp)} (h : Du49 K H v r) (S : Same H H') : Du49 K H' v r := by
  cases r with
  | ok n o => obtain ⟨p, a, c⟩ := h; exact ⟨p, a, c.kp (.same S)⟩
  | er k => obtain ⟨p, a, c⟩ := h; exact ⟨p, a, S _ _ c⟩
theorem Du49.kl {r : DR (List Stp)} (h : Du49 K H v r) (S : Kl T H H') : Du49 K H' v r := by
  cases r with
  | ok n o => obtain ⟨p, a, c⟩ := h; exact ⟨p, a, c.kl S⟩
  | er k => obtain ⟨p, a, c⟩ := h; exact ⟨p, a, S.keep _ _ id (fun _ z => nomatch z) c⟩
/-- what is told is what is due -/
theorem rd_neDu {r : DR (List Stp)} (h : Du49 K H v r) (g : Du49 K H u r) (ok : ∀ ss o, r = .ok ss o → okFrom 0 ss) (k : Q (.bl false) H) : rNeA K v u H Q := by
  have s1 : PySem.PyData.strOk (Str.ofString "error") = true := by decide +kernel
  have s2 : PySem.PyData.strOk (Str.ofString "DecodeError") = true := by decide +kernel
  cases r with
  | er n => obtain ⟨p, rfl, a⟩ := h; obtain ⟨q, rfl, c⟩ := g; exact rd_neE3 rfl a c s1 s2 k
  | ok ss o =>
    obtain ⟨p, rfl, a⟩ := h; obtain ⟨q, rfl, c⟩ := g
    exact rd_neTT a c (ok ss o rfl) (ok ss o rfl) (by rw [decide_eq_true rfl]; exact k)
theorem rd_groups {n : Nat} (hn : n ≤ 1000000000000000000) (q : ∀ l H', Same H H' → H l = none → H' l = some (.lst (natV (grpN n))) → Q (.ref l) H') : sp_x_law_groups [.int (n : Nat)] H Q E := ⟨n, rfl, hn, q⟩
theorem rd_closed (h : H l = some (.lst (natV L))) (hl : L.length ≤ 100000) (q : ∀ p H', Same H H' → H p = none → H' p = some (.lst (natV (L ++ [ckS L]))) → Q (.ref p) H') : sp_x_law_closed [.ref l] H Q E := ⟨l, L, rfl, h, hl, q⟩
theorem rd_values49 {ms : List V} (h : H l = some (.lst ms)) (st : StepsAt K H ms ss) (ok : okFrom 0 ss) (few : ss.length ≤ 30) (q : ∀ p H', Same H H' → H p = none → H' p = some (.lst (natV (encV ss))) → Q (.ref p) H') : sp_x_law_values K [.ref l] H Q E := ⟨l, ms, ss, rfl, h, st, ok, few, q⟩
theorem rd_take49 {i j k : Int} (h : H l = some (.lst (natV b))) (h8 : Byt b) (ei : i = o) (ej : j = lo) (ek : k = hi) (q : ∀ v H', Same H H' → Tk49 H' v (tkC b o lo hi) → Q v H') : sp_x_law_take [.ref l, .int i, .int j, .int k] H Q E := by
  subst ei ej ek
  exact ⟨l, b, o, lo, hi, rfl, h, h8, q⟩
theorem rd_number49 {i j k : Int} (h : H l = some (.lst (natV b))) (h8 : Byt b) (ho : o ≤ b.length) (ei : i = o) (ej : j = lo) (ek : k = (hi : Nat) - 1) (q : ∀ v H', Same H H' → Tk49 H' v (nmD b o lo hi) → Q v H') : sp_x_law_number [.ref l, .int i, .int j, .int k] H Q E := by
  subst ei ej ek
  exact ⟨l, b, o, lo, hi, rfl, h, h8, ho, q⟩
theorem rd_one49 (h : H l = some (.lst (natV b))) (h8 : Byt b) (ho : o ≤ b.length) (ht : t ≤ 1000000000000000000) (q : ∀ v H', Same H H' → St49 K H' v (spD b o t) → Q v H') : sp_x_law_one K [.ref l, .int (o : Nat), .int (t : Nat)] H Q E := ⟨l, b, o, t, rfl, h, h8, ho, ht, q⟩
theorem rd_decoded (h : H l = some (.lst (natV b))) (h8 : Byt b) (q : ∀ v H', Same H H' → Du49 K H' v (decD b) → Q v H') : sp_x_law_decoded K [.ref l] H Q E := ⟨l, b, rfl, h, h8, q⟩
theorem natMin_int {a c : Nat} : (if ((c : Nat) : Int) < ((a : Nat) : Int) then ((c : Nat) : Int) else ((a : Nat) : Int)) = ((min a c : Nat) : Int) := by split <;> omega
theorem rd_catT {a c : Addr} {xs ys : List V} (h : SqT K H a xs) (g : SqT K H c ys) (hz : xs.length + ys.length ≤ 16777216) (q : ∀ p H', Same H H' → SqT K H' p (xs ++ ys) → Q (.ref p) H') : rCatA K (.ref a) (.ref c) H Q := by
  refine ⟨a, c, xs, ys, rfl, rfl, h, g, by rw [sizeLine_eq]; exact hz, fun e => ?_, fun _ e => ?_, fun _ _ => new_of fun p H' S e => q p H' S (SqT.of e)⟩
  · subst e; exact q c H (Same.refl _) g
  · subst e; exact q a H (Same.refl _) (by rw [List.append_nil]; exact h)
theorem rd_ixLastN {n : Nat} (h : H l = some (.lst (natV (L ++ [n])))) (q : Q (.int (n : Nat)) H) : rIx K (.ref l) (.int (-1)) H Q := by
  refine rd_ixI q (SqL.of h) ?_
  rw [natV_snoc]
  exact atI_last _ _
theorem rd_tIfJ {tt : TT} {ta tb : TE} {σ : St} (J : V → Hp → Prop) (hj : ∀ v H', J v H' → Q v H') (h : ∀ R : VK, (∀ v H', J v H' → R v H') → tIf tt ta tb σ H R) : tIf tt ta tb σ H Q := h Q hj
theorem rd_pack0 {CIC : Addr} (e : H l = some (.lst (natV b))) (h8 : Byt b) (q : ∀ H', Same H H' → Q (byV b) H') : nox (sp_pack_bytesR K CIC) [.ref l] H Q E := ⟨.ref l, rfl, .inl ⟨l, b, rfl, e, h8, q⟩⟩
theorem rd_encode {CT CP a : Addr} (h : TX K CT CP H a ss) (q : ∀ H', Same H H' → Q (byV (encT ss)) H') : sp_encode_text K CT CP [.ref a] H Q E := ⟨a, ss, rfl, h, q⟩
theorem rd_unpack (h8 : Byt b) (q : ∀ p H', Same H H' → H p = none → H' p = some (.lst (natV b)) → Q (.ref p) H') : sp_unpack_bytes [byV b] H Q E := ⟨b, rfl, h8, q⟩
theorem encT_Byt (ok : okFrom 0 ss) (few : ss.length ≤ 30) : Byt (encT ss) := ⟨by have := encT_len ok few; omega, encT_255 ok few⟩
theorem rd_decode0 {CDE CT CP : Addr} (ok : okFrom 0 ss) (few : ss.length ≤ 30) (q : ∀ y H', Same H H' → H y = none → TX K CT CP H' y ss → Q (.ref y) H') : nox (sp_decode_textR K CDE CT CP) [byV (encT ss)] H Q E :=
  ⟨encT ss, rfl, encT_Byt ok few, fun ss' o h y H' S n t => by rw [dec_enc ok few] at h; cases h; exact q y H' S n t, fun k h => by rw [dec_enc ok few] at h; cases h⟩
/-- decode_text(pack_bytes(_law_bad)).steps, told -/
theorem rd_decodeT {CTE CDE CIC CT CP : Addr} {Cs : List Addr} {σ : St} (h9 : σ[9]? = some (some (.ref l))) (e : H l = some (.lst (natV b))) (h8 : Byt b) (zD : RzC K CTE Cs 2 CDE) (zo : RzF K CDE "offset") (k : ∀ v H', Same H H' → Du49 K H' v (decD b) → Q v H') :
    tProp CT (sp_Text_steps K CT CP) [] E0 (tG (sp_decode_textR K CDE CT CP) (fun cls dd H' => ToAns K CTE Cs cls dd H' Q) (tCons (tG (nox (sp_pack_bytesR K CIC)) E0 (tCons (tVar 9) tNil)) tNil)) σ H Q := by
  refine rd_prop (rd_g (rd_cons (rd_g (rd_cons (rd_var h9 (rd_nil (rd_pack0 e h8 fun H1 S1 => rd_nil ?_)))))))
  refine ⟨b, rfl, h8, fun ss o h y H' S n t => ?_, fun q h d H' S ed => ?_⟩
  · refine rd_pSteps t fun p tp => ?_
    refine k _ _ (S1.trans S) ?_
    rw [h]
    exact ⟨p, rfl, tp⟩
  · refine to_off zD zo ed fun p H2 S2 e2 => ?_
    refine k _ _ ((S1.trans S).trans S2) ?_
    rw [h]
    exact ⟨p, rfl, e2⟩
theorem rd_packT {CTE CIC : Addr} {Cs : List Addr} {σ : St} (h11 : σ[11]? = some (some v)) (bp : BadPk K H v) (zC : RzC K CTE Cs 8 CIC) (k : ∀ p H', Same H H' → H' p = some (.tup [.str "error", .str "InvalidCount"]) → Q (.ref p) H') :
    tG (sp_pack_bytesR K CIC) (fun cls dd H' => ToAns K CTE Cs cls dd H' Q) (tCons (tVar 11) tNil) σ H Q :=
  rd_g (rd_cons (rd_var h11 (rd_nil ⟨v, rfl, .inr ⟨bp, fun H' S => to_word 8 (by decide) zC rfl fun p H2 S2 e2 => k p H2 (S.trans S2) e2⟩⟩)))
/-- what the law packs that is no byte -/
theorem badPk_kx (h : BadPk K H v) (S : Kx T H H') : BadPk K H' v := by
  rcases h with h | ⟨a, xs, h1, h2⟩ | ⟨a, xs, h1, h2, h3⟩
  · exact .inl h
  · exact .inr (.inl ⟨a, xs, h1, S.tup h2⟩)
  · exact .inr (.inr ⟨a, xs, h1, S.keep _ _ (fun _ z => nomatch z) h2, h3⟩)
theorem Byt.app {L M : List Nat} (h : Byt L) (g : ∀ v ∈ M, v ≤ 255) (hl : L.length + M.length ≤ 100000) : Byt (L ++ M) := ⟨by rw [List.length_append]; exact hl, fun v hv => (List.mem_append.mp hv).elim (h.2 v) (g v)⟩
theorem Byt.closed {L : List Nat} (h : Byt L) (hl : L.length ≤ 90000) : Byt (L ++ [ckS L]) := h.app (fun v hv => by rw [List.mem_singleton.mp hv]; have := ckS_lt L; omega) (by simp; omega)
theorem rd_slDropLast {a : Addr} (h : H a = some (.lst (natV L))) (q : ∀ p H', Same H H' → H' p = some (.lst (natV L.dropLast)) → Q (.ref p) H') : rSlL K (.ref a) none (some (-1)) H Q := by
  refine rd_slL (SqL.of h) fun p hp => q p _ (Same.new (Same.refl _) hp) ?_
  rw [upd_same]
  have e : cutV (natV L) none (some (-((1 : Nat) : Int))) = natV L.dropLast := by
    unfold cutV
    rw [sIx_neg _ _ _ (by decide), HT.sIx_none]
    show ((natV L).drop 0).take ((natV L).length - 1 - 0) = _
    rw [List.drop_zero, Nat.sub_zero, natV_len, List.dropLast_eq_take]
    unfold natV
    rw [List.map_take]
  exact congrArg (fun z => some (HO.lst z)) e
theorem odd8 {n x m : Nat} (hx : x ≤ 255) (hm : m < 32) (h : [V.int (x : Nat), .int 0, .int 1, .int 255, .int 128, .int 129, .int (m : Nat), .int 20, .int 21, .int 25, .int 26][n]? = some v) : ∃ o : Nat, v = .int (o : Nat) ∧ o ≤ 255 := by
  have hmem := List.mem_of_getElem? h
  simp only [List.mem_cons, List.not_mem_nil, or_false] at hmem
  rcases hmem with rfl | rfl | rfl | rfl | rfl | rfl | rfl | rfl | rfl | rfl | rfl
  · exact ⟨x, rfl, hx⟩
  · exact ⟨0, rfl, by decide⟩
  · exact ⟨1, rfl, by decide⟩
  · exact ⟨255, rfl, by decide⟩
  · exact ⟨128, rfl, by decide⟩
  · exact ⟨129, rfl, by decide⟩
  · exact ⟨m, rfl, by omega⟩
  · exact ⟨20, rfl, by decide⟩
  · exact ⟨21, rfl, by decide⟩
  · exact ⟨25, rfl, by decide⟩
  · exact ⟨26, rfl, by decide⟩
theorem Byt.drop8 (h : Byt L) (j : Nat) : Byt (L.drop j) := ⟨by rw [List.length_drop]; have := h.1; omega, fun v hv => h.2 v (List.mem_of_mem_drop hv)⟩
theorem Byt.dropLast (h : Byt L) : Byt L.dropLast := ⟨by rw [List.length_dropLast]; have := h.1; omega, fun v hv => h.2 v (List.dropLast_subset _ hv)⟩
theorem mem_one8 {o1 : Nat} (ho : o1 ≤ 255) : ∀ v ∈ [o1], v ≤ 255 := fun v hv => by rw [List.mem_singleton.mp hv]; exact ho
end
end L2.Px
set_option Elab.async false
set_option linter.all false
set_option maxRecDepth 100000
set_option maxHeartbeats 4000000
namespace L2.Px
open PySem PySem.Spec PyProof.Rows StX TL ClX
def top (i : Nat) : Stmt := PySem.Challenge.pw_pastekeys_k49_bytes_of_texts.main.body.getD i (.Pass ⟨0, 0, 0, 0⟩)
abbrev s_is_integer : Stmt := top 21
abbrev N_is_integer : List Str := ["value", "low", "high"]
theorem sc_is_integer : FnScope N_is_integer ["value", "low", "high"] (defScope s_is_integer) := ⟨rfl, rfl, rfl, by decide +kernel, rfl, by decide +kernel, by decide +kernel⟩
abbrev s_is_letter : Stmt := top 22
abbrev N_is_letter : List Str := ["value"]
theorem sc_is_letter : FnScope N_is_letter ["value"] (defScope s_is_letter) := ⟨rfl, rfl, rfl, by decide +kernel, rfl, by decide +kernel, by decide +kernel⟩
abbrev s_is_word : Stmt := top 23
abbrev N_is_word : List Str := ["value", "letter"]
theorem sc_is_word : FnScope N_is_word ["value"] (defScope s_is_word) := ⟨rfl, rfl, rfl, by decide +kernel, rfl, by decide +kernel, by decide +kernel⟩
abbrev s_is_step : Stmt := top 24
abbrev N_is_step : List Str := ["value", "size", "word", "first", "last", "times"]
theorem sc_is_step : FnScope N_is_step ["value", "size"] (defScope s_is_step) := ⟨rfl, rfl, rfl, by decide +kernel, rfl, by decide +kernel, by decide +kernel⟩
abbrev s_Part_init : Stmt := inClass (top 25) 0
abbrev N_Part_init : List Str := ["self", "start", "length", "is_typed", "first", "last"]
theorem sc_Part_init : FnScope N_Part_init ["self", "start", "length", "is_typed", "first", "last"] (defScope s_Part_init) := ⟨rfl, rfl, rfl, by decide +kernel, rfl, by decide +kernel, by decide +kernel⟩
abbrev s_Text_init : Stmt := inClass (top 26) 1
abbrev N_Text_init : List Str := ["self", "steps", "parts", "typed", "total", "index", "step"]
theorem sc_Text_init : FnScope N_Text_init ["self", "steps"] (defScope s_Text_init) := ⟨rfl, rfl, rfl, by decide +kernel, rfl, by decide +kernel, by decide +kernel⟩
abbrev s_Text_steps : Stmt := inClass (top 26) 4
abbrev N_Text_steps : List Str := ["self"]
theorem sc_Text_steps : FnScope N_Text_steps ["self"] (defScope s_Text_steps) := ⟨rfl, rfl, rfl, by decide +kernel, rfl, by decide +kernel, by decide +kernel⟩
abbrev s_Text_size : Stmt := inClass (top 26) 6
abbrev s_DecodeError_init : Stmt := inClass (top 14) 0
abbrev N_DecodeError_init : List Str := ["self", "offset"]
theorem sc_DecodeError_init : FnScope N_DecodeError_init ["self", "offset"] (defScope s_DecodeError_init) := ⟨rfl, rfl, rfl, by decide +kernel, rfl, by decide +kernel, by decide +kernel⟩
abbrev s_pack_bytes : Stmt := top 35
abbrev N_pack_bytes : List Str := ["values", "value"]
theorem sc_pack_bytes : FnScope N_pack_bytes ["values"] (defScope s_pack_bytes) := ⟨rfl, rfl, rfl, by decide +kernel, rfl, by decide +kernel, by decide +kernel⟩
abbrev s_unpack_bytes : Stmt := top 36
abbrev N_unpack_bytes : List Str := ["data"]
theorem sc_unpack_bytes : FnScope N_unpack_bytes ["data"] (defScope s_unpack_bytes) := ⟨rfl, rfl, rfl, by decide +kernel, rfl, by decide +kernel, by decide +kernel⟩
abbrev s_checksum_of : Stmt := top 37
abbrev N_checksum_of : List Str := ["values", "result", "value"]
theorem sc_checksum_of : FnScope N_checksum_of ["values"] (defScope s_checksum_of) := ⟨rfl, rfl, rfl, by decide +kernel, rfl, by decide +kernel, by decide +kernel⟩
abbrev s_number_values : Stmt := top 38
abbrev N_number_values : List Str := ["number", "values"]
theorem sc_number_values : FnScope N_number_values ["number"] (defScope s_number_values) := ⟨rfl, rfl, rfl, by decide +kernel, rfl, by decide +kernel, by decide +kernel⟩
abbrev s_encode_text : Stmt := top 39
abbrev N_encode_text : List Str := ["text", "values", "step", "letter", "number"]
theorem sc_encode_text : FnScope N_encode_text ["text"] (defScope s_encode_text) := ⟨rfl, rfl, rfl, by decide +kernel, rfl, by decide +kernel, by decide +kernel⟩
abbrev s_Decoder_init : Stmt := inClass (top 40) 0
abbrev N_Decoder_init : List Str := ["self", "data"]
theorem sc_Decoder_init : FnScope N_Decoder_init ["self", "data"] (defScope s_Decoder_init) := ⟨rfl, rfl, rfl, by decide +kernel, rfl, by decide +kernel, by decide +kernel⟩
abbrev s_Decoder_take : Stmt := inClass (top 40) 1
abbrev N_Decoder_take : List Str := ["self", "low", "high"]
theorem sc_Decoder_take : FnScope N_Decoder_take ["self", "low", "high"] (defScope s_Decoder_take) := ⟨rfl, rfl, rfl, by decide +kernel, rfl, by decide +kernel, by decide +kernel⟩
abbrev s_Decoder_take_number : Stmt := inClass (top 40) 2
abbrev N_Decoder_take_number : List Str := ["self", "low", "high", "start", "number", "factor", "byte"]
theorem sc_Decoder_take_number : FnScope N_Decoder_take_number ["self", "low", "high"] (defScope s_Decoder_take_number) := ⟨rfl, rfl, rfl, by decide +kernel, rfl, by decide +kernel, by decide +kernel⟩
abbrev s_Decoder_take_step : Stmt := inClass (top 40) 3
abbrev N_Decoder_take_step : List Str := ["self", "start", "length", "step", "turn", "first", "last", "times"]
theorem sc_Decoder_take_step : FnScope N_Decoder_take_step ["self"] (defScope s_Decoder_take_step) := ⟨rfl, rfl, rfl, by decide +kernel, rfl, by decide +kernel, by decide +kernel⟩
abbrev s_Decoder_finish : Stmt := inClass (top 40) 4
abbrev N_Decoder_finish : List Str := ["self", "checksum"]
theorem sc_Decoder_finish : FnScope N_Decoder_finish ["self"] (defScope s_Decoder_finish) := ⟨rfl, rfl, rfl, by decide +kernel, rfl, by decide +kernel, by decide +kernel⟩
abbrev s_decode_text : Stmt := top 41
abbrev N_decode_text : List Str := ["data", "decoder", "steps", "turn"]
theorem sc_decode_text : FnScope N_decode_text ["data"] (defScope s_decode_text) := ⟨rfl, rfl, rfl, by decide +kernel, rfl, by decide +kernel, by decide +kernel⟩
abbrev s_x_law_dice : Stmt := top 51
abbrev N_x_law_dice : List Str := ["_law_script", "_law_mixed", "_law_cell"]
theorem sc_x_law_dice : FnScope N_x_law_dice ["_law_script"] (defScope s_x_law_dice) := ⟨rfl, rfl, rfl, by decide +kernel, rfl, by decide +kernel, by decide +kernel⟩
abbrev s_x_law_next : Stmt := top 52
abbrev N_x_law_next : List Str := ["_law_dice_here", "_law_many", "_law_found", "_law_cell"]
theorem sc_x_law_next : FnScope N_x_law_next ["_law_dice_here", "_law_many"] (defScope s_x_law_next) := ⟨rfl, rfl, rfl, by decide +kernel, rfl, by decide +kernel, by decide +kernel⟩
abbrev s_x_law_pick : Stmt := top 53
abbrev N_x_law_pick : List Str := ["_law_d", "_law_some_here"]
theorem sc_x_law_pick : FnScope N_x_law_pick ["_law_d", "_law_some_here"] (defScope s_x_law_pick) := ⟨rfl, rfl, rfl, by decide +kernel, rfl, by decide +kernel, by decide +kernel⟩
abbrev s_x_law_told : Stmt := top 54
abbrev N_x_law_told : List Str := ["_law_work", "e", "_law_some_here", "_law_terms", "_law_k"]
theorem sc_x_law_told : FnScope N_x_law_told ["_law_work"] (defScope s_x_law_told) := ⟨rfl, rfl, rfl, by decide +kernel, rfl, by decide +kernel, by decide +kernel⟩
abbrev s_x_law_word : Stmt := top 55
abbrev N_x_law_word : List Str := ["_law_d", "_law_k"]
theorem sc_x_law_word : FnScope N_x_law_word ["_law_d"] (defScope s_x_law_word) := ⟨rfl, rfl, rfl, by decide +kernel, rfl, by decide +kernel, by decide +kernel⟩
abbrev s_x_law_drawn : Stmt := top 56
abbrev N_x_law_drawn : List Str := ["_law_d", "_law_total", "_law_most", "_law_word_here", "_law_first", "_law_last", "_law_times"]
theorem sc_x_law_drawn : FnScope N_x_law_drawn ["_law_d", "_law_total", "_law_most"] (defScope s_x_law_drawn) := ⟨rfl, rfl, rfl, by decide +kernel, rfl, by decide +kernel, by decide +kernel⟩
abbrev s_x_law_some : Stmt := top 58
abbrev N_x_law_some : List Str := ["_law_d", "_law_count", "_law_most", "_law_word_here", "_law_steps", "_law_total", "_law_k", "_law_step"]
theorem sc_x_law_some : FnScope N_x_law_some ["_law_d", "_law_count", "_law_most"] (defScope s_x_law_some) := ⟨rfl, rfl, rfl, by decide +kernel, rfl, by decide +kernel, by decide +kernel⟩
abbrev s_x_law_groups : Stmt := top 59
abbrev N_x_law_groups : List Str := ["_law_number_here", "_law_found"]
theorem sc_x_law_groups : FnScope N_x_law_groups ["_law_number_here"] (defScope s_x_law_groups) := ⟨rfl, rfl, rfl, by decide +kernel, rfl, by decide +kernel, by decide +kernel⟩
abbrev s_x_law_closed : Stmt := top 60
abbrev N_x_law_closed : List Str := ["_law_values_here", "_law_rest", "_law_value"]
theorem sc_x_law_closed : FnScope N_x_law_closed ["_law_values_here"] (defScope s_x_law_closed) := ⟨rfl, rfl, rfl, by decide +kernel, rfl, by decide +kernel, by decide +kernel⟩
abbrev s_x_law_values : Stmt := top 61
abbrev N_x_law_values : List Str := ["_law_steps", "_law_found", "_law_step", "_law_c", "_law_number_here"]
theorem sc_x_law_values : FnScope N_x_law_values ["_law_steps"] (defScope s_x_law_values) := ⟨rfl, rfl, rfl, by decide +kernel, rfl, by decide +kernel, by decide +kernel⟩
abbrev s_x_law_take : Stmt := top 62
abbrev N_x_law_take : List Str := ["_law_values_here", "_law_at", "_law_low", "_law_high"]
theorem sc_x_law_take : FnScope N_x_law_take ["_law_values_here", "_law_at", "_law_low", "_law_high"] (defScope s_x_law_take) := ⟨rfl, rfl, rfl, by decide +kernel, rfl, by decide +kernel, by decide +kernel⟩
abbrev s_x_law_number : Stmt := top 63
abbrev N_x_law_number : List Str := ["_law_values_here", "_law_at", "_law_low", "_law_high", "_law_number_here", "_law_factor", "_law_k"]
theorem sc_x_law_number : FnScope N_x_law_number ["_law_values_here", "_law_at", "_law_low", "_law_high"] (defScope s_x_law_number) := ⟨rfl, rfl, rfl, by decide +kernel, rfl, by decide +kernel, by decide +kernel⟩
abbrev s_x_law_one : Stmt := top 64
abbrev N_x_law_one : List Str := ["_law_values_here", "_law_at", "_law_total", "_law_kind", "_law_length", "_law_word_here", "_law_k", "_law_letter", "_law_found", "_law_low", "_law_high", "_law_number_here"]
theorem sc_x_law_one : FnScope N_x_law_one ["_law_values_here", "_law_at", "_law_total"] (defScope s_x_law_one) := ⟨rfl, rfl, rfl, by decide +kernel, rfl, by decide +kernel, by decide +kernel⟩
abbrev s_x_law_decoded : Stmt := top 65
abbrev N_x_law_decoded : List Str := ["_law_values_here", "_law_head", "_law_count", "_law_one_here", "_law_steps", "_law_total", "_law_at", "_law_k", "_law_begin", "_law_found", "_law_step", "_law_rest", "_law_last"]
theorem sc_x_law_decoded : FnScope N_x_law_decoded ["_law_values_here"] (defScope s_x_law_decoded) := ⟨rfl, rfl, rfl, by decide +kernel, rfl, by decide +kernel, by decide +kernel⟩
abbrev s_Editor_init : Stmt := inClass (top 49) 0
abbrev N_Editor_init : List Str := ["self", "steps"]
theorem sc_Editor_init : FnScope N_Editor_init ["self", "steps"] (defScope s_Editor_init) := ⟨rfl, rfl, rfl, by decide +kernel, rfl, by decide +kernel, by decide +kernel⟩
abbrev s_Editor_present_text : Stmt := inClass (top 49) 4
abbrev N_Editor_present_text : List Str := ["self"]
theorem sc_Editor_present_text : FnScope N_Editor_present_text ["self"] (defScope s_Editor_present_text) := ⟨rfl, rfl, rfl, by decide +kernel, rfl, by decide +kernel, by decide +kernel⟩
abbrev s_Editor_apply : Stmt := inClass (top 49) 15
abbrev N_Editor_apply : List Str := ["self", "operations", "index", "operation", "present", "done", "undone", "results", "finished"]
theorem sc_Editor_apply : FnScope N_Editor_apply ["self", "operations"] (defScope s_Editor_apply) := ⟨rfl, rfl, rfl, by decide +kernel, rfl, by decide +kernel, by decide +kernel⟩
abbrev s_Editor_replay : Stmt := inClass (top 49) 3
abbrev N_Editor_replay : List Str := ["cls", "steps", "operations", "editor"]
theorem sc_Editor_replay : FnScope N_Editor_replay ["cls", "steps", "operations"] (defScope s_Editor_replay) := ⟨rfl, rfl, rfl, by decide +kernel, rfl, by decide +kernel, by decide +kernel⟩
abbrev s_x_law_made : Stmt := top 57
abbrev N_x_law_made : List Str := ["_law_steps"]
theorem sc_x_law_made : FnScope N_x_law_made ["_law_steps"] (defScope s_x_law_made) := ⟨rfl, rfl, rfl, by decide +kernel, rfl, by decide +kernel, by decide +kernel⟩
abbrev s_law : Stmt := top 66
abbrev N_law : List Str := ["_law_script", "_law_d", "_law_turn", "_law_steps", "_law_values_here", "_law_data", "_law_k", "_law_pick_here", "_law_one_here", "_law_bad", "_law_rest", "_law_odd"]
theorem sc_law : FnScope N_law ["_law_script"] (defScope s_law) := ⟨rfl, rfl, rfl, by decide +kernel, rfl, by decide +kernel, by decide +kernel⟩
abbrev TL (p_law : Addr) : List (Addr × Str) := [(p_law, ("law" : Str) ++ ".<locals>." ++ "<lambda>")]
structure Lms (K : PySem.W.Frag) (mg : Str → Option Value) (base : Heap) (c_law p_law : Addr) : Prop where
  tb_law : LamX.TabB base mg c_law p_law
  hu_law : ∀ p ∈ TL p_law, p.1 = p_law → p.2 = ("law" : Str) ++ ".<locals>." ++ "<lambda>"
structure Txt (K : PySem.W.Frag) (mg : Str → Option Value) (CText : Addr) (CPart : Addr) (CEditor : Addr) (CDecoder : Addr) (CTextError : Addr) (CInvalidStep : Addr) (CInvalidOperation : Addr) (CDecodeError : Addr) (CNotationError : Addr) (CTooLong : Addr) (CInvalidPlace : Addr) (CInvalidLetter : Addr) (CContradiction : Addr) (CInvalidCount : Addr) (c_law : Addr) (p_law : Addr) : Prop where
  d_is_integer : DefG K mg "is_integer" s_is_integer ["value", "low", "high"]
  d_is_letter : DefG K mg "is_letter" s_is_letter ["value"]
  d_is_word : DefG K mg "is_word" s_is_word ["value"]
  d_is_step : DefG K mg "is_step" s_is_step ["value", "size"]
  d_Part_init : DefK K CPart "Part.__init__" s_Part_init ["self", "start", "length", "is_typed", "first", "last"]
  d_Text_init : DefKS K CText "Text.__init__" s_Text_init ["self"] "steps"
  d_Text_steps : DefP K CText "steps" "Text.steps" s_Text_steps
  d_Text_size : DefP K CText "size" "Text.size" s_Text_size
  d_DecodeError_init : DefI K CDecodeError "DecodeError.__init__" s_DecodeError_init ["self", "offset"]
  d_pack_bytes : DefG K mg "pack_bytes" s_pack_bytes ["values"]
  d_unpack_bytes : DefG K mg "unpack_bytes" s_unpack_bytes ["data"]
  d_checksum_of : DefG K mg "checksum_of" s_checksum_of ["values"]
  d_number_values : DefG K mg "number_values" s_number_values ["number"]
  d_encode_text : DefG K mg "encode_text" s_encode_text ["text"]
  d_Decoder_init : DefK K CDecoder "Decoder.__init__" s_Decoder_init ["self", "data"]
  d_Decoder_take : DefM K CDecoder "take" "Decoder.take" s_Decoder_take ["self", "low", "high"]
  d_Decoder_take_number : DefM K CDecoder "take_number" "Decoder.take_number" s_Decoder_take_number ["self", "low", "high"]
  d_Decoder_take_step : DefM K CDecoder "take_step" "Decoder.take_step" s_Decoder_take_step ["self"]
  d_Decoder_finish : DefM K CDecoder "finish" "Decoder.finish" s_Decoder_finish ["self"]
  d_decode_text : DefG K mg "decode_text" s_decode_text ["data"]
  d_x_law_dice : DefG K mg "_law_dice" s_x_law_dice ["_law_script"]
  d_x_law_next : DefG K mg "_law_next" s_x_law_next ["_law_dice_here", "_law_many"]
  d_x_law_pick : DefG K mg "_law_pick" s_x_law_pick ["_law_d", "_law_some_here"]
  d_x_law_told : DefG K mg "_law_told" s_x_law_told ["_law_work"]
  d_x_law_word : DefG K mg "_law_word" s_x_law_word ["_law_d"]
  d_x_law_drawn : DefG K mg "_law_drawn" s_x_law_drawn ["_law_d", "_law_total", "_law_most"]
  d_x_law_some : DefG K mg "_law_some" s_x_law_some ["_law_d", "_law_count", "_law_most"]
  d_x_law_groups : DefG K mg "_law_groups" s_x_law_groups ["_law_number_here"]
  d_x_law_closed : DefG K mg "_law_closed" s_x_law_closed ["_law_values_here"]
  d_x_law_values : DefG K mg "_law_values" s_x_law_values ["_law_steps"]
  d_x_law_take : DefG K mg "_law_take" s_x_law_take ["_law_values_here", "_law_at", "_law_low", "_law_high"]
  d_x_law_number : DefG K mg "_law_number" s_x_law_number ["_law_values_here", "_law_at", "_law_low", "_law_high"]
  d_x_law_one : DefG K mg "_law_one" s_x_law_one ["_law_values_here", "_law_at", "_law_total"]
  d_x_law_decoded : DefG K mg "_law_decoded" s_x_law_decoded ["_law_values_here"]
  d_Editor_init : DefKS K CEditor "Editor.__init__" s_Editor_init ["self"] "steps"
  d_Editor_present_text : DefP K CEditor "present_text" "Editor.present_text" s_Editor_present_text
  d_Editor_apply : DefBS K CEditor "apply" "Editor.apply" s_Editor_apply ["self"] "operations"
  d_Editor_replay : DefC K CEditor "replay" "Editor.replay" s_Editor_replay ["cls", "steps", "operations"]
  d_x_law_made : DefG K mg "_law_made" s_x_law_made ["_law_steps"]
  d_law : DefGC K mg "law" s_law ["_law_script"] c_law
  cText : Cls K CText
  g_Text : mg "Text" = some (.ref CText)
  cPart : Cls K CPart
  g_Part : mg "Part" = some (.ref CPart)
  cEditor : Cls K CEditor
  g_Editor : mg "Editor" = some (.ref CEditor)
  cDecoder : Cls K CDecoder
  g_Decoder : mg "Decoder" = some (.ref CDecoder)
  ne_Text_Part : CText ≠ CPart
  ne_Text_Editor : CText ≠ CEditor
  ne_Text_Decoder : CText ≠ CDecoder
  ne_Part_Editor : CPart ≠ CEditor
  ne_Part_Decoder : CPart ≠ CDecoder
  ne_Editor_Decoder : CEditor ≠ CDecoder
  xb_TextError : XBs K mg "TextError" CTextError
  x_InvalidStep : XNm K mg "InvalidStep" CInvalidStep
  x_InvalidOperation : XNm K mg "InvalidOperation" CInvalidOperation
  x_DecodeError : XOw K mg "DecodeError" CDecodeError ["offset"]
  x_NotationError : XNm K mg "NotationError" CNotationError
  x_TooLong : XNm K mg "TooLong" CTooLong
  x_InvalidPlace : XNm K mg "InvalidPlace" CInvalidPlace
  x_InvalidLetter : XNm K mg "InvalidLetter" CInvalidLetter
  x_Contradiction : XNm K mg "Contradiction" CContradiction
  x_InvalidCount : XPl K mg "InvalidCount" CInvalidCount
  z_DecodeError : RzC K CTextError [CInvalidStep, CInvalidOperation, CDecodeError, CNotationError, CTooLong, CInvalidPlace, CInvalidLetter, CContradiction, CInvalidCount] 2 CDecodeError
  zf_DecodeError_offset : RzF K CDecodeError "offset"
  z_InvalidCount : RzC K CTextError [CInvalidStep, CInvalidOperation, CDecodeError, CNotationError, CTooLong, CInvalidPlace, CInvalidLetter, CContradiction, CInvalidCount] 8 CInvalidCount
  t_law : TabC K c_law p_law
  na_Part_start : NoAttr K CPart "start"
  na_Part_length : NoAttr K CPart "length"
  na_Part_is_typed : NoAttr K CPart "is_typed"
  na_Part_first : NoAttr K CPart "first"
  na_Part_last : NoAttr K CPart "last"
  na_Text_made : NoAttr K CText "made"
  na_Text_typed : NoAttr K CText "typed"
  na_Text_parts : NoAttr K CText "parts"
  na_Text_total : NoAttr K CText "total"
  na_Decoder_data : NoAttr K CDecoder "data"
  na_Decoder_offset : NoAttr K CDecoder "offset"
  na_Decoder_total : NoAttr K CDecoder "total"
  na_Editor_present : NoAttr K CEditor "present"
  na_Editor_done : NoAttr K CEditor "done"
  na_Editor_undone : NoAttr K CEditor "undone"
  na_Editor_is_open : NoAttr K CEditor "is_open"
  na_Editor_kept_present : NoAttr K CEditor "kept_present"
  na_Editor_kept_done : NoAttr K CEditor "kept_done"
  na_Editor_kept_undone : NoAttr K CEditor "kept_undone"
  k_LETTERS : ∃ t, mg "LETTERS" = some (.str "abcdefghijklmnopqrstuvwxyz" t)
  k_MAX_WORD : ∃ t, mg "MAX_WORD" = some (.int 20 t)
  k_MAX_STEPS : ∃ t, mg "MAX_STEPS" = some (.int 30 t)
  k_MAX_TIMES : ∃ t, mg "MAX_TIMES" = some (.int 1000000000 t)
  k_MAX_SIZE_texts : ∃ t, mg "MAX_SIZE_texts" = some (.int 1000000000000000000 t)
  k_FIRST_BYTE : ∃ t, mg "FIRST_BYTE" = some (.int 80 t)
  k_BYTE : ∃ t, mg "BYTE" = some (.int 256 t)
  k_GROUP : ∃ t, mg "GROUP" = some (.int 128 t)
  k_CHECKSUM_MODULUS : ∃ t, mg "CHECKSUM_MODULUS" = some (.int 227 t)
  n_isinstance : mg "isinstance" = none
  n_int : mg "int" = none
  n_bool : mg "bool" = none
  n_str : mg "str" = none
  n_len : mg "len" = none
  n_all : mg "all" = none
  n_tuple : mg "tuple" = none
  n_list : mg "list" = none
  n_range : mg "range" = none
  n_enumerate : mg "enumerate" = none
  n_min : mg "min" = none
  n_max : mg "max" = none
  n_bytes : mg "bytes" = none
  n_ValueError : mg "ValueError" = none
local macro_rules | `(tactic| walk_at "rd1") => `(tactic| first
  | with_reducible refine rd_seq ?_ | with_reducible refine rd_asg ?_ | with_reducible refine rd_name ?_ | ((with_reducible refine' rd_var ?k1 ?_); (case k1 => rfl)) | with_reducible refine rd_C ?_ | with_reducible refine rd_op ?_ | with_reducible refine rd_cons ?_ | with_reducible refine rd_nil ?_
  | with_reducible refine rd_test ?_ | with_reducible refine rd_tB ?_ | with_reducible refine rd_bl ?_ | with_reducible refine rd_ifS ?_ | with_reducible refine rd_and ?_ | with_reducible refine rd_or ?_ | with_reducible refine rd_not ?_ | with_reducible refine rd_andV ?_ | with_reducible refine rd_orV ?_ | with_reducible refine rd_notV ?_ | with_reducible refine rd_chain ?_
  | with_reducible refine rd_if ?_ | with_reducible refine rd_g ?_ | with_reducible refine rd_m ?_ | with_reducible refine rd_star ?_ | with_reducible refine rd_tup ?_ | with_reducible refine rd_lst ?_ | with_reducible refine rd_fld ?_ | with_reducible refine rd_cb ?_ | with_reducible refine rd_un ?_ | with_reducible refine rd_makeR ?_ | with_reducible refine rd_makeS ?_
  | with_reducible refine rd_bm ?_ | with_reducible refine rd_bm0 ?_ | with_reducible refine rd_next ?_ | with_reducible refine rd_break ?_ | with_reducible refine rd_cont ?_ | with_reducible refine rd_ret ?_ | with_reducible refine rd_retN ?_ | with_reducible refine rd_drop ?_ | with_reducible refine rd_gcons ?_ | with_reducible refine rd_gnil ?_ | with_reducible refine rd_gsub ?_
  | ((with_reducible refine' rd_aug ?k1 ?_); (case k1 => rfl)) | with_reducible refine rd_ipI ?_ | with_reducible refine rd_sfld ?_ | with_reducible refine rd_for ?_ | with_reducible refine rd_iStr ?_ | with_reducible refine rd_iList ?_ | with_reducible refine rd_iTup ?_ | with_reducible refine rd_iRng1 ?_ | with_reducible refine rd_iRng2 ?_ | with_reducible refine rd_iEnumT ?_ | with_reducible refine rd_match ?_ | with_reducible refine rd_par ?_ | with_reducible refine rd_two ?_
  | with_reducible refine rd_sl ?_ | with_reducible refine rd_noPart ?_ | with_reducible refine rd_part ?_ | with_reducible refine rd_pint ?_ | with_reducible refine rd_listRg ?_ | with_reducible refine rd_rg1 ?_ | with_reducible refine rd_rg2 ?_ | with_reducible refine rd_ixO ?_ | with_reducible refine rd_U ?_ | with_reducible refine rd_int_int ?_ | with_reducible refine rd_int_bl ?_ | with_reducible refine rd_min2 ?_ | with_reducible refine rd_max2 ?_ | with_reducible refine rd_in_sign ?_ | with_reducible refine rd_isN ?_ | with_reducible refine rd_notN ?_
  | with_reducible refine rd_lc ?_ | with_reducible refine rd_yes ?_ | with_reducible refine rd_prop ?_ | with_reducible refine rd_cmeth ?_ | with_reducible refine rd_o ?_ | with_reducible refine rd_add_int ?_ | with_reducible refine rd_sub ?_ | with_reducible refine rd_eq_int ?_ | with_reducible refine rd_eq_str ?_ | with_reducible refine rd_eq_bl ?_ | with_reducible refine rd_ne_int ?_ | with_reducible refine rd_ne_str ?_ | with_reducible refine rd_ne_bl ?_ | with_reducible refine rd_I0 ?_
  | with_reducible refine rd_isi_int_int ?_ | with_reducible refine rd_isi_int_bool ?_ | with_reducible refine rd_isi_int_str ?_ | with_reducible refine rd_isi_int_list ?_ | with_reducible refine rd_isi_int_tuple ?_ | with_reducible refine rd_isi_bl_int ?_ | with_reducible refine rd_isi_bl_bool ?_ | with_reducible refine rd_isi_bl_str ?_ | with_reducible refine rd_isi_bl_list ?_ | with_reducible refine rd_isi_bl_tuple ?_ | with_reducible refine rd_isi_str_int ?_ | with_reducible refine rd_isi_str_bool ?_ | with_reducible refine rd_isi_str_str ?_ | with_reducible refine rd_isi_str_list ?_ | with_reducible refine rd_isi_str_tuple ?_ | with_reducible refine rd_isi_non_int ?_ | with_reducible refine rd_isi_non_bool ?_ | with_reducible refine rd_isi_non_str ?_ | with_reducible refine rd_isi_non_list ?_ | with_reducible refine rd_isi_non_tuple ?_)
local macro_rules | `(tactic| walk_at "rd") => `(tactic| repeat walk_at "rd1")
local macro_rules | `(tactic| walk_at "same") => `(tactic| first | assumption | exact Same.refl _ | (refine Same.new ?_ (by assumption); walk_at "same") | (refine Same.mut ?_ (by assumption); walk_at "same") | (refine Same.trans ?_ (by assumption); walk_at "same"))
section
variable {P : Program} {w : World} {K : PySem.W.Frag} {mg : Str → Option Value} {base : Heap} {CText CPart CEditor CDecoder CTextError CInvalidStep CInvalidOperation CDecodeError CNotationError CTooLong CInvalidPlace CInvalidLetter CContradiction CInvalidCount c_law p_law : Addr}
theorem ok_is_integer (T : Txt K mg CText CPart CEditor CDecoder CTextError CInvalidStep CInvalidOperation CDecodeError CNotationError CTooLong CInvalidPlace CInvalidLetter CContradiction CInvalidCount c_law p_law) : GOk P w K mg base CX0 1 "is_integer" sp_is_integer := by
  refine T.d_is_integer.ok sc_is_integer (fun vs H Q E h => ?len) (fun f cdv A outer s H vs Q E hr h => ?_)
  case len => obtain ⟨v, lo, hi, rfl, _⟩ := h; rfl
  · obtain ⟨v, lo, hi, rfl, hv, k⟩ := h
    refine ⟨_, (pss_one (ps_ret (pe_and (pe_callB (isiK (K := K) rfl) rfl T.n_isinstance (by decide +kernel) (pa_cons (pv 0) (pa_cons (pe_bltn (v := .ty "int") rfl T.n_int (by decide +kernel) rfl) pa_nil))) (pe_and (pe_not (pe_callB (isiK (K := K) rfl) rfl T.n_isinstance (by decide +kernel) (pa_cons (pv 0) (pa_cons (pe_bltn (v := .ty "bool") rfl T.n_bool (by decide +kernel) rfl) pa_nil)))) (pe_one (pe_chain op_le op_le (pv 1) (pv 0) (pv 2))))))), ?_⟩
    cases v with
    | int i =>
      walk_at "rd"
      refine rd_cT rfl ?_
      walk_at "rd"
      refine rd_cT rfl ?_
      walk_at "rd"
      refine rd_ite (fun h1 => ?_) (fun h1 => ?_)
      · walk_at "rd"
        have e : isInt lo hi (.int i) = decide (i ≤ hi) := by unfold isInt; simp [h1]
        rw [← e]; exact k
      · have e : isInt lo hi (.int i) = false := by unfold isInt; simp [h1]
        rw [e] at k; exact k
    | bl c =>
      walk_at "rd"
      refine rd_cT rfl ?_
      walk_at "rd"
      refine rd_cF rfl ?_
      exact k
    | str x => walk_at "rd"; exact rd_cF rfl k
    | non => walk_at "rd"; exact rd_cF rfl k
    | _ => exact hv.elim
end
section
variable {P : Program} {w : World} {K : PySem.W.Frag} {mg : Str → Option Value} {base : Heap} {CText CPart CEditor CDecoder CTextError CInvalidStep CInvalidOperation CDecodeError CNotationError CTooLong CInvalidPlace CInvalidLetter CContradiction CInvalidCount c_law p_law : Addr}
theorem ok_is_letter (T : Txt K mg CText CPart CEditor CDecoder CTextError CInvalidStep CInvalidOperation CDecodeError CNotationError CTooLong CInvalidPlace CInvalidLetter CContradiction CInvalidCount c_law p_law) : GOk P w K mg base CX0 1 "is_letter" sp_is_letter := by
  refine T.d_is_letter.ok sc_is_letter (fun vs H Q E h => ?len) (fun f cdv A outer s H vs Q E hr h => ?_)
  case len => obtain ⟨v, rfl, _⟩ := h; rfl
  · obtain ⟨v, rfl, hv, hz, k⟩ := h
    obtain ⟨t_LETTERS, h_LETTERS⟩ := T.k_LETTERS; refine ⟨_, (pss_one (ps_ret (pe_and (pe_callB (isiK (K := K) rfl) rfl T.n_isinstance (by decide +kernel) (pa_cons (pv 0) (pa_cons (pe_bltn (v := .ty "str") rfl T.n_str (by decide +kernel) rfl) pa_nil))) (pe_and (pe_cmpR (eqK (K := K) rfl hr.units) (pe_callB (lenK (K := K) rfl) rfl T.n_len (by decide +kernel) (pa_cons (pv 0) pa_nil)) pe_int (nomark _)) (pe_one (pe_cmpR (oInSign) (pv 0) (pe_glob (v := .str "abcdefghijklmnopqrstuvwxyz") rfl h_LETTERS ⟨_, rfl⟩) rfl)))))), ?_⟩
    cases v with
    | str x =>
      walk_at "rd"
      refine rd_cT rfl ?_
      walk_at "rd"
      refine rd_len_str (hz x rfl) ?_
      walk_at "rd"
      refine rd_ite (fun h1 => ?_) (fun h1 => ?_)
      · walk_at "rd"
        obtain ⟨c, hc⟩ := one_sign (Int.ofNat.inj h1)
        subst hc
        walk_at "rd"
        rw [← isLet_one]
        exact k
      · have e : isLet (.str x) = false := isLet_len fun z => h1 (congrArg Int.ofNat z)
        rw [e] at k; exact k
    | bl c => walk_at "rd"; exact rd_cF rfl k
    | int x => walk_at "rd"; exact rd_cF rfl k
    | non => walk_at "rd"; exact rd_cF rfl k
    | _ => exact hv.elim
end
section
variable {P : Program} {w : World} {K : PySem.W.Frag} {mg : Str → Option Value} {base : Heap} {CText CPart CEditor CDecoder CTextError CInvalidStep CInvalidOperation CDecodeError CNotationError CTooLong CInvalidPlace CInvalidLetter CContradiction CInvalidCount c_law p_law : Addr}
theorem ok_is_word (T : Txt K mg CText CPart CEditor CDecoder CTextError CInvalidStep CInvalidOperation CDecodeError CNotationError CTooLong CInvalidPlace CInvalidLetter CContradiction CInvalidCount c_law p_law) : GOk P w K mg base CX0 2 "is_word" sp_is_word := by
  refine T.d_is_word.ok sc_is_word (fun vs H Q E h => ?len) (fun f cdv A outer s H vs Q E hr h => ?_)
  case len => obtain ⟨v, rfl, _⟩ := h; rfl
  · obtain ⟨v, rfl, hv, hz, k⟩ := h
    obtain ⟨t_MAX_WORD, h_MAX_WORD⟩ := T.k_MAX_WORD; refine ⟨_, (pss_one (ps_ret (pe_and (pe_callB (isiK (K := K) rfl) rfl T.n_isinstance (by decide +kernel) (pa_cons (pv 0) (pa_cons (pe_bltn (v := .ty "str") rfl T.n_str (by decide +kernel) rfl) pa_nil))) (pe_and (pe_chain op_le op_le pe_int (pe_callB (lenK (K := K) rfl) rfl T.n_len (by decide +kernel) (pa_cons (pv 0) pa_nil)) (pe_glob (v := .int 20) rfl h_MAX_WORD ⟨_, rfl⟩)) (pe_one (pe_callB (allK (K := K) rfl rfl) rfl T.n_all (by decide +kernel) (pa_cons (pe_lc (own := [("letter", 1)]) rfl sc_is_word.nd (pi_str (pv 0)) (blkOk_by (own := [("letter", 1)]) (N := N_is_word) (sc := (defScope s_is_word)) (by first | decide +kernel | rfl)) (fun _ _ _ _ _ => (pg_name (i := 1) sc_is_word.nd rfl (Or.inl rfl))) (fun _ _ _ _ _ => pts_nil) (fun _ _ _ _ _ => (pe_g (ok_is_letter (K := K) T) (hr.mono (by decide)) pass0 (pa_cons (pv 1) pa_nil)))) pa_nil))))))), ?_⟩
    cases v with
    | str x =>
      walk_at "rd"
      refine rd_cT rfl ?_
      walk_at "rd"
      refine rd_len_str (hz x rfl) ?_
      walk_at "rd"
      refine rd_ite (fun h1 => ?_) (fun h1 => ?_)
      · walk_at "rd"
        refine rd_ite (fun h2 => ?_) (fun h2 => ?_)
        · walk_at "rd"
          refine ⟨x, rfl, fun D hD => lc_fun (f := fun i => .bl (isLet (.str ⟨#[(tl x)[i]?.getD 0]⟩))) plain_str hD (by rw [← len_tl]; exact hz x rfl) (fun _ => rfl) (fun i H1 Q1 hi S q => ?_) fun H1 S eD => ?_⟩
          · walk_at "rd"
            exact ⟨_, rfl, trivial, fun y ey => by cases ey; exact sign_small _, q _ (Same.refl _)⟩
          · walk_at "rd"
            have eb : ((List.range (tl x).length).map fun i => V.bl (isLet (.str ⟨#[(tl x)[i]?.getD 0]⟩))) = ((List.range (tl x).length).map fun i => isLet (.str ⟨#[(tl x)[i]?.getD 0]⟩)).map V.bl := by rw [List.map_map]; rfl
            rw [eb] at eD
            refine rd_all (SqL.of eD) ?_
            rw [isWd_all (by rw [← len_tl]; omega) (by rw [← len_tl]; omega)]
            exact k _ S
        · have e : isWd (.str x) = false := isWd_len (by rw [← len_tl]; omega)
          rw [e] at k; exact k _ (Same.refl _)
      · have e : isWd (.str x) = false := isWd_len (by rw [← len_tl]; omega)
        walk_at "rd"
        refine rd_cF rfl ?_
        rw [e] at k; exact k _ (Same.refl _)
    | bl c => walk_at "rd"; exact rd_cF rfl (k _ (Same.refl _))
    | int x => walk_at "rd"; exact rd_cF rfl (k _ (Same.refl _))
    | non => walk_at "rd"; exact rd_cF rfl (k _ (Same.refl _))
    | _ => exact hv.elim
end
section
variable {P : Program} {w : World} {K : PySem.W.Frag} {mg : Str → Option Value} {base : Heap} {CText CPart CEditor CDecoder CTextError CInvalidStep CInvalidOperation CDecodeError CNotationError CTooLong CInvalidPlace CInvalidLetter CContradiction CInvalidCount c_law p_law : Addr}
theorem ok_is_step (T : Txt K mg CText CPart CEditor CDecoder CTextError CInvalidStep CInvalidOperation CDecodeError CNotationError CTooLong CInvalidPlace CInvalidLetter CContradiction CInvalidCount c_law p_law) : GOk P w K mg base CX0 3 "is_step" (sp_is_step K) := by
  refine T.d_is_step.ok sc_is_step (fun vs H Q E h => ?len) (fun f cdv A outer s H vs Q E hr h => ?_)
  case len => obtain ⟨v, n, s, rfl, _⟩ := h; rfl
  · obtain ⟨v, n, s, rfl, ⟨a, rfl, hq⟩, ok, k⟩ := h
    obtain ⟨t_MAX_TIMES, h_MAX_TIMES⟩ := T.k_MAX_TIMES; refine ⟨_, (pss_one (ps_match (pv 0) (pcs_seq (qs := [.inl "write", .inr 2]) rfl sc_is_step.nd (PatEach.val (PatEach.cap ⟨rfl, (Or.inl rfl), Or.inl rfl⟩ PatEach.nil)) rfl (pt_val (pe_callB (isiK (K := K) rfl) rfl T.n_isinstance (by decide +kernel) (pa_cons (pv 0) (pa_cons (pe_bltn (v := .ty "tuple") rfl T.n_tuple (by decide +kernel) rfl) pa_nil)))) (pss_one (ps_ret (pe_g (ok_is_word (K := K) T) (hr.mono (by decide)) pass0 (pa_cons (pv 2) pa_nil))))
    (pcs_seq (qs := [.inl "paste", .inr 3, .inr 4, .inr 5]) rfl sc_is_step.nd (PatEach.val (PatEach.cap ⟨rfl, (Or.inl rfl), Or.inl rfl⟩ (PatEach.cap ⟨rfl, (Or.inl rfl), Or.inl rfl⟩ (PatEach.cap ⟨rfl, (Or.inl rfl), Or.inl rfl⟩ PatEach.nil)))) rfl (pt_val (pe_callB (isiK (K := K) rfl) rfl T.n_isinstance (by decide +kernel) (pa_cons (pv 0) (pa_cons (pe_bltn (v := .ty "tuple") rfl T.n_tuple (by decide +kernel) rfl) pa_nil)))) (pss_cons (ps_if (PW.pt (pw_or (pt_not (pt_val (pe_g (ok_is_integer (K := K) T) (hr.mono (by decide)) pass0 (pa_cons (pv 4) (pa_cons pe_int (pa_cons (pe_op op_sub (pv 1) pe_int) pa_nil)))))) (pw_or1 (pt_not (pt_val (pe_g (ok_is_integer (K := K) T) (hr.mono (by decide)) pass0 (pa_cons (pv 3) (pa_cons pe_int (pa_cons (pv 4) pa_nil))))))))) (pss_one (ps_ret pe_bl))
    pss_nil)
    (pss_one (ps_ret (pe_g (ok_is_integer (K := K) T) (hr.mono (by decide)) pass0 (pa_cons (pv 5) (pa_cons pe_int (pa_cons (pe_glob (v := .int 1000000000) rfl h_MAX_TIMES ⟨_, rfl⟩) pa_nil)))))))
    (pcs_wild (pss_one (ps_ret pe_bl))))))), ?_⟩
    walk_at "rd"
    cases s with
    | wr w =>
      have e : mBind [.inl "write", .inr 2] (stV (.wr w)) = some [(2, .str w)] := by simp [mBind, stV]
      refine .inr ⟨a, _, rfl, .inl hq, .inr ⟨rfl, ⟨rfl, fun _ => trivial⟩, ?_⟩⟩
      rw [e]
      walk_at "rd"
      refine rd_isi_tup_tuple hq ?_
      walk_at "rd"
      refine rd_cT rfl ?_
      walk_at "rd"
      refine ⟨_, rfl, trivial, fun z ez => by cases ez; exact str_small ok.2.1, fun H' S => ?_⟩
      rw [show isWd (.str w) = true from decide_eq_true (by rw [← len_tl]; exact ok)]
      exact k _ S
    | pa i j t =>
      have e : mBind [.inl "paste", .inr 3, .inr 4, .inr 5] (stV (.pa i j t)) = some [(3, .int i), (4, .int j), (5, .int t)] := by simp [mBind, stV]
      obtain ⟨o1, o2, o3, o4⟩ := ok
      refine .inr ⟨a, _, rfl, .inl hq, .inl ⟨by show 4 ≠ 2; decide, ?_⟩⟩
      refine .inr ⟨a, _, rfl, .inl hq, .inr ⟨rfl, ⟨rfl, fun _ => trivial⟩, ?_⟩⟩
      rw [e]
      walk_at "rd"
      refine rd_isi_tup_tuple hq ?_
      walk_at "rd"
      refine rd_cT rfl ?_
      walk_at "rd"
      refine ⟨_, _, _, rfl, trivial, ?_⟩
      rw [show isInt 0 ((n : Int) - 1) (.int j) = true from decide_eq_true (by omega)]
      walk_at "rd"
      refine rd_cF rfl ?_
      walk_at "rd"
      refine ⟨_, _, _, rfl, trivial, ?_⟩
      rw [show isInt 0 (j : Int) (.int i) = true from decide_eq_true (by omega)]
      walk_at "rd"
      refine rd_cF rfl ?_
      walk_at "rd"
      refine ⟨_, _, _, rfl, trivial, ?_⟩
      rw [show isInt 1 1000000000 (.int t) = true from decide_eq_true (by omega)]
      exact k _ (Same.refl _)
end
section
variable {P : Program} {w : World} {K : PySem.W.Frag} {mg : Str → Option Value} {base : Heap} {CText CPart CEditor CDecoder CTextError CInvalidStep CInvalidOperation CDecodeError CNotationError CTooLong CInvalidPlace CInvalidLetter CContradiction CInvalidCount c_law p_law : Addr}
theorem ok_Part_init (T : Txt K mg CText CPart CEditor CDecoder CTextError CInvalidStep CInvalidOperation CDecodeError CNotationError CTooLong CInvalidPlace CInvalidLetter CContradiction CInvalidCount c_law p_law) : KOk P w K mg base CX0 1 CPart (sp_Part_init CPart) := by
  refine T.d_Part_init.ok sc_Part_init (fun vs H Q E h => ?len) (fun f cdv A outer s H vs Q E hr h => ?_)
  case len => obtain ⟨x, dx, s, n, t, f, l, rfl, _⟩ := h; rfl
  · obtain ⟨x, dx, s0, n, t, f0, l, rfl, hx, k⟩ := h
    refine ⟨_, (pss_cons (ps_fld (pv 0) (pv 1) rfl)
    (pss_cons (ps_fld (pv 0) (pv 2) rfl)
    (pss_cons (ps_fld (pv 0) (pv 3) rfl)
    (pss_cons (ps_fld (pv 0) (pv 4) rfl)
    (pss_one (ps_fld (pv 0) (pv 5) rfl)))))), ?_⟩
    walk_at "rd"
    refine rd_sfld_at hx T.cPart T.na_Part_start (by decide) ?_
    walk_at "rd"
    refine rd_sfld_at upd_same T.cPart T.na_Part_length fl1 ?_
    walk_at "rd"
    refine rd_sfld_at upd_same T.cPart T.na_Part_is_typed fl2 ?_
    walk_at "rd"
    refine rd_sfld_at upd_same T.cPart T.na_Part_first fl3 ?_
    walk_at "rd"
    refine rd_sfld_at upd_same T.cPart T.na_Part_last fl4 ?_
    rw [upd_upd, upd_upd, upd_upd, upd_upd]
    exact k
end
section
variable {P : Program} {w : World} {K : PySem.W.Frag} {mg : Str → Option Value} {base : Heap} {CText CPart CEditor CDecoder CTextError CInvalidStep CInvalidOperation CDecodeError CNotationError CTooLong CInvalidPlace CInvalidLetter CContradiction CInvalidCount c_law p_law : Addr}
theorem ok_Text_init (T : Txt K mg CText CPart CEditor CDecoder CTextError CInvalidStep CInvalidOperation CDecodeError CNotationError CTooLong CInvalidPlace CInvalidLetter CContradiction CInvalidCount c_law p_law) : KOk P w K mg base CX0 4 CText (spStar 1 (sp_Text_init K CText CPart)) := by
  refine T.d_Text_init.ok sc_Text_init (fun f cdv A outer s H vs Q E hr h => ?_)
  · obtain ⟨x, dx, m, rs, ss, rfl, hx, hm, hst, ok, few, k⟩ := h
    obtain ⟨t_MAX_SIZE_texts, h_MAX_SIZE_texts⟩ := T.k_MAX_SIZE_texts; obtain ⟨t_MAX_STEPS, h_MAX_STEPS⟩ := T.k_MAX_STEPS; refine ⟨_, (pss_cons (ps_set (i := 2) sc_Text_init.nd rfl (Or.inl rfl) (pe_lst pa_nil))
    (pss_cons (ps_asg (pe_tup (pa_cons pe_str (pa_cons pe_int pa_nil))) (pg_tupK (K := K) (n := 2) rfl rfl (pgs_cons (pg_name (i := 3) sc_Text_init.nd rfl (Or.inl rfl)) (pgs_cons (pg_name (i := 4) sc_Text_init.nd rfl (Or.inl rfl)) pgs_nil))))
    (pss_cons (ps_for PassesOwn.never rfl (pi_enumT T.n_enumerate (pa_cons (pv 1) pa_nil)) (pg_tupK (K := K) (n := 2) rfl rfl (pgs_cons (pg_name (i := 5) sc_Text_init.nd rfl (Or.inl rfl)) (pgs_cons (pg_name (i := 6) sc_Text_init.nd rfl (Or.inl rfl)) pgs_nil))) (pss_cons (ps_if (PW.pt (pw_or (pt_cmpR (eqK (K := K) rfl hr.units) (pv 5) (pe_glob (v := .int 30) rfl h_MAX_STEPS ⟨_, rfl⟩) (nomark _)) (pw_or1 (pt_not (pt_val (pe_g (ok_is_step (K := K) T) (hr.mono (by decide)) pass0 (pa_cons (pv 6) (pa_cons (pv 4) pa_nil)))))))) (pss_one ps_never)
    pss_nil)
    (pss_cons (ps_if (pt_cmpR (eqK (K := K) rfl hr.units) (pe_ix (ixK (K := K) rfl) (pv 6) pe_int (fun _ _ => rfl)) pe_str (nomark _)) (pss_cons (ps_expr (pe_bmK (K := K) rfl PySem.F.plainAttrs_list PySem.F.slot_list_append PySem.F.type_list_append mt_append (pv 2) (pa_cons (pe_k (ok_Part_init (K := K) T) (hr.mono (by decide)) T.g_Part pass0 (pa_cons (pv 4) (pa_cons (pe_callB (lenK (K := K) rfl) rfl T.n_len (by decide +kernel) (pa_cons (pe_ix (ixK (K := K) rfl) (pv 6) pe_int (fun _ _ => rfl)) pa_nil)) (pa_cons pe_bl (pa_cons (pe_callB (lenK (K := K) rfl) rfl T.n_len (by decide +kernel) (pa_cons (pv 3) pa_nil)) (pa_cons pe_int pa_nil)))))) pa_nil)))
    (pss_one (ps_set (i := 3) sc_Text_init.nd rfl (Or.inl rfl) (pe_op (addK (K := K) rfl) (pv 3) (pe_ix (ixK (K := K) rfl) (pv 6) pe_int (fun _ _ => rfl))))))
    (pss_one (ps_expr (pe_bmK (K := K) rfl PySem.F.plainAttrs_list PySem.F.slot_list_append PySem.F.type_list_append mt_append (pv 2) (pa_cons (pe_k (ok_Part_init (K := K) T) (hr.mono (by decide)) T.g_Part pass0 (pa_cons (pv 4) (pa_cons (pe_op oMul (pe_op (addK (K := K) rfl) (pe_op op_sub (pe_ix (ixK (K := K) rfl) (pv 6) pe_int (fun _ _ => rfl)) (pe_ix (ixK (K := K) rfl) (pv 6) pe_int (fun _ _ => rfl))) pe_int) (pe_ix (ixK (K := K) rfl) (pv 6) pe_int (fun _ _ => rfl))) (pa_cons pe_bl (pa_cons (pe_ix (ixK (K := K) rfl) (pv 6) pe_int (fun _ _ => rfl)) (pa_cons (pe_ix (ixK (K := K) rfl) (pv 6) pe_int (fun _ _ => rfl)) pa_nil)))))) pa_nil)))))
    (pss_cons (ps_set (i := 4) sc_Text_init.nd rfl (Or.inl rfl) (pe_op (addK (K := K) rfl) (pe_fldK (K := K) rfl (pe_ix (ixK (K := K) rfl) (pv 2) (pe_un un_neg pe_int) (fun _ _ => rfl)) (by rfl)) (pe_fldK (K := K) rfl (pe_ix (ixK (K := K) rfl) (pv 2) (pe_un un_neg pe_int) (fun _ _ => rfl)) (by rfl))))
    (pss_one (ps_if (pt_cmpR op_gt (pv 4) (pe_glob (v := .int 1000000000000000000) rfl h_MAX_SIZE_texts ⟨_, rfl⟩) (nomark _)) (pss_one ps_never)
    pss_nil))))))
    (pss_cons (ps_fld (pv 0) (pv 1) rfl)
    (pss_cons (ps_fld (pv 0) (pv 3) rfl)
    (pss_cons (ps_fld (pv 0) (pv 2) rfl)
    (pss_one (ps_fld (pv 0) (pv 4) rfl)))))))), ?_⟩
    walk_at "rd"
    refine ⟨Nat.zero_le _, fun pl hpl => ?_⟩
    walk_at "rd"
    refine ⟨two_line, fun tp htp => ?_⟩
    refine rd_gtup (SqT.of upd_same) rfl ?_
    walk_at "rd"
    have S1 : Same H (upd (upd H pl (.lst [])) tp (.tup [.str "", .int 0])) := Same.new (Same.new (Same.refl _) hpl) htp
    refine ⟨m, rs, rfl, Same.tup S1 hm, for_enumT (xs := rs) (fun i σ H' => ∃ ps v5 v6, σ = [some (.ref x), some (.ref m), some (.ref pl), some (.str (mkS (tyL (ss.take i)))), some (.int (sz (ss.take i) : Nat)), v5, v6] ∧ Same H H' ∧ H' pl = some (.lst ps) ∧ PartsAt CPart H' ps (ss.take i))
      ⟨[], _, _, by rw [emp_mk]; rfl, S1, lk_new htp upd_same, rfl, fun j s hj => by simp at hj⟩ (fun i σ H' _ ⟨_, _, _, _, S, _⟩ => Same.tup S hm) ?_ ?_⟩
    · rintro i v tu σ H' hv ⟨ps, v5, v6, rfl, S, hpl', hp⟩ hT
      obtain ⟨s', hs, a, rfl, hq⟩ := hst.at hv
      have hi : i < ss.length := (List.getElem?_eq_some_iff.mp hs).1
      have hok := ok_at ok hs
      have hpsl : ps.length < sizeLine := by rw [hp.1, List.length_take]; have := line30; omega
      walk_at "rd"
      refine rd_gtup (SqT.of upd_same) rfl ?_
      walk_at "rd"
      refine rd_dF (by omega) ?_
      walk_at "rd"
      refine ⟨_, _, s', rfl, ⟨a, rfl, Same.tup (Same.new S hT) hq⟩, hok.1, fun Hb S2 => ?_⟩
      have Sb : Same H Hb := (Same.new S hT).trans S2
      have hplb : Hb pl = some (.lst ps) := S2 _ _ (lk_new hT hpl')
      have hpb : PartsAt CPart Hb ps (ss.take i) := hp.mono ((Same.new (Same.refl _) hT).trans S2)
      have hqb : SqT K Hb a (stV s') := Same.tup Sb hq
      walk_at "rd"
      refine rd_cF rfl ?_
      walk_at "rd"
      cases s' with
      | wr w =>
        refine rd_ixT ?_ hqb rfl
        walk_at "rd"
        refine rd_dT rfl ?_
        walk_at "rd"
        refine rd_tyL (SqL.of hplb) _ ?_
        walk_at "rd"
        refine rd_ixT ?_ hqb rfl
        walk_at "rd"
        refine rd_len_str (str_small hok.1.2.1) ?_
        walk_at "rd"
        refine rd_len_str (by rw [mkS_len]; exact Nat.le_trans (tyL_take_le i) (tyL_line ok few)) ?_
        walk_at "rd"
        refine rd_mkPart (fun p dxp Hc np SC hpc => ?_)
        walk_at "rd"
        have hplc := SC _ _ hplb
        have nplp : pl ≠ p := ne_of_none hplb np
        refine rd_append hplc hpsl ?_
        have S3 := Same.mut (o := HO.lst (ps ++ [V.ref p])) (Sb.trans SC) hpl
        have E2 := @upd_same Hc pl (HO.lst (ps ++ [V.ref p]))
        have E4 := lk_ne (o := HO.lst (ps ++ [V.ref p])) nplp.symm hpc
        have E3 := hpb.snoc hs (But.at (o := HO.lst (ps ++ [V.ref p])) (But.same SC)) (fun dx fs e => by rw [hplb] at e; cases e) (v := .ref p) ⟨p, dxp, rfl, by rw [mkS_len] at E4; exact E4⟩
        revert S3 E2 E3 E4
        generalize upd Hc pl (HO.lst (ps ++ [V.ref p])) = Hd
        intro S3 E2 E4 E3
        walk_at "rd"
        refine rd_ixT ?_ (Same.tup S3 hq) rfl
        refine rd_add_str (by rw [mkS_len, len_tl, ← List.length_append]; have := tyL_line (ok_take ok (i + 1)) (by rw [List.length_take]; omega); rw [tyL_take hs] at this; exact this) ?_
        walk_at "rd"
        refine rd_ixI ?_ (SqL.of E2) (atI_last _ _)
        refine rd_fld_at E4 T.cPart T.na_Part_start partF_start ?_
        walk_at "rd"
        refine rd_ixI ?_ (SqL.of E2) (atI_last _ _)
        refine rd_fld_at E4 T.cPart T.na_Part_length partF_length ?_
        walk_at "rd"
        refine rd_dF (by have := hok.2; simp only [len1] at this; omega) ?_
        walk_at "rd"
        refine ⟨_, some (.int i), some (.ref a), ?_, S3, E2, E3⟩
        rw [show (w : Str) = mkS (tl w) from (mkS_tl w).symm, mkS_app, tyL_take hs, sz_take hs, mkS_tl]
        rfl
      | pa f l t =>
        obtain ⟨⟨o1, o2, o3, o4⟩, o5⟩ := hok
        simp only [len1] at o5
        refine rd_ixT ?_ hqb rfl
        walk_at "rd"
        refine rd_dF (by decide +kernel) ?_
        walk_at "rd"
        refine rd_tyL (SqL.of hplb) _ ?_
        walk_at "rd"
        refine rd_ixT ?_ hqb rfl
        walk_at "rd"
        refine rd_ixT ?_ hqb rfl
        walk_at "rd"
        refine rd_ixT ?_ hqb rfl
        walk_at "rd"
        refine rd_mul_int (Or.inl ⟨by omega, by omega⟩) ?_
        walk_at "rd"
        refine rd_ixT ?_ hqb rfl
        walk_at "rd"
        refine rd_ixT ?_ hqb rfl
        walk_at "rd"
        refine rd_mkPart (fun p dxp Hc np SC hpc => ?_)
        walk_at "rd"
        have hplc := SC _ _ hplb
        have nplp : pl ≠ p := ne_of_none hplb np
        refine rd_append hplc hpsl ?_
        rw [show ((l : Int) - f + 1) * t = (((l - f + 1) * t : Nat) : Int) by rw [Int.natCast_mul]; congr 1; omega] at hpc
        have S3 := Same.mut (o := HO.lst (ps ++ [V.ref p])) (Sb.trans SC) hpl
        have E2 := @upd_same Hc pl (HO.lst (ps ++ [V.ref p]))
        have E4 := lk_ne (o := HO.lst (ps ++ [V.ref p])) nplp.symm hpc
        have E3 := hpb.snoc hs (But.at (o := HO.lst (ps ++ [V.ref p])) (But.same SC)) (fun dx fs e => by rw [hplb] at e; cases e) (v := .ref p) ⟨p, dxp, rfl, E4⟩
        revert S3 E2 E3 E4
        generalize upd Hc pl (HO.lst (ps ++ [V.ref p])) = Hd
        intro S3 E2 E4 E3
        walk_at "rd"
        refine rd_ixI ?_ (SqL.of E2) (atI_last _ _)
        refine rd_fld_at E4 T.cPart T.na_Part_start partF_start ?_
        walk_at "rd"
        refine rd_ixI ?_ (SqL.of E2) (atI_last _ _)
        refine rd_fld_at E4 T.cPart T.na_Part_length partF_length ?_
        walk_at "rd"
        refine rd_dF (by omega) ?_
        walk_at "rd"
        refine ⟨_, some (.int i), some (.ref a), ?_, S3, E2, E3⟩
        rw [tyL_take hs, sz_take hs]
        simp only [ty1, List.append_nil, len1, Int.natCast_add]
        rfl
    · rintro σ H' ⟨ps, v5, v6, rfl, S, hpl', hp⟩
      rw [hst.1, List.take_length] at hp ⊢
      have hx' := S _ _ hx
      have hm' : SqT K H' m rs := Same.tup S hm
      have hst' := hst.mono S
      have npl : pl ≠ x := fun e => by subst e; rw [hx] at hpl; cases hpl
      walk_at "rd"
      refine rd_sfld_at hx' T.cText T.na_Text_made (by decide) ?_
      walk_at "rd"
      refine rd_sfld_at upd_same T.cText T.na_Text_typed fl1 ?_
      walk_at "rd"
      refine rd_sfld_at upd_same T.cText T.na_Text_parts fl2 ?_
      walk_at "rd"
      refine rd_sfld_at upd_same T.cText T.na_Text_total fl3 ?_
      have B : But x H' (upd (upd (upd (upd H' x (HO.ins CText dx (putF "made" (.ref m) []))) x (HO.ins CText dx (putF "typed" (.str (mkS (tyL ss))) (putF "made" (.ref m) [])))) x (HO.ins CText dx (putF "parts" (.ref pl) (putF "typed" (.str (mkS (tyL ss))) (putF "made" (.ref m) []))))) x (HO.ins CText dx (putF "total" (.int (sz ss : Nat)) (putF "parts" (.ref pl) (putF "typed" (.str (mkS (tyL ss))) (putF "made" (.ref m) [])))))) := But.at (But.at (But.at (But.at But.refl)))
      refine k _ ⟨ss, dx, m, pl, rs, ps⟩ (fun b o hb e => B _ _ hb (S _ _ e)) ⟨upd_same, B.tup (free1_ins hx') hm', B.steps (free1_ins hx') hst', B _ _ npl hpl', PartsAt.but B (fun dx fs e => ?_) hp, ok, few⟩ rfl rfl
      rw [hx'] at e
      cases e
      exact T.ne_Text_Part rfl
end
section
variable {P : Program} {w : World} {K : PySem.W.Frag} {mg : Str → Option Value} {base : Heap} {CText CPart CEditor CDecoder CTextError CInvalidStep CInvalidOperation CDecodeError CNotationError CTooLong CInvalidPlace CInvalidLetter CContradiction CInvalidCount c_law p_law : Addr}
theorem ok_Text_steps (T : Txt K mg CText CPart CEditor CDecoder CTextError CInvalidStep CInvalidOperation CDecodeError CNotationError CTooLong CInvalidPlace CInvalidLetter CContradiction CInvalidCount c_law p_law) : POk P w K mg base CX0 1 CText "steps" (sp_Text_steps K CText CPart) := by
  refine T.d_Text_steps.ok sc_Text_steps (fun vs H Q E h => ?len) (fun f cdv A outer s H vs Q E hr h => ?_)
  case len => obtain ⟨a, t, rfl, _⟩ := h; rfl
  · obtain ⟨a, t, rfl, ht, k⟩ := h
    refine ⟨_, (pss_one (ps_ret (pe_fldK (K := K) rfl (pv 0) (by rfl)))), ?_⟩
    walk_at "rd"
    exact rd_fld_at ht.ins T.cText T.na_Text_made textF_made k
end
local macro_rules | `(tactic| walk_at "rd1_Fr") => `(tactic| first
  | with_reducible refine rd_seq ?_ | with_reducible refine rd_asg ?_ | with_reducible refine rd_name ?_ | ((with_reducible refine' rd_var ?k1 ?_); (case k1 => rfl)) | with_reducible refine rd_C ?_ | with_reducible refine rd_op ?_ | with_reducible refine rd_cons ?_ | with_reducible refine rd_nil ?_
  | with_reducible refine rd_test ?_ | with_reducible refine rd_tB ?_ | with_reducible refine rd_bl ?_ | with_reducible refine rd_ifS ?_ | with_reducible refine rd_and ?_ | with_reducible refine rd_or ?_ | with_reducible refine rd_not ?_ | with_reducible refine rd_andV ?_ | with_reducible refine rd_orV ?_ | with_reducible refine rd_notV ?_ | with_reducible refine rd_chain ?_
  | with_reducible refine rd_if ?_ | with_reducible refine rd_g ?_ | with_reducible refine rd_m ?_ | with_reducible refine rd_star ?_ | with_reducible refine rd_tup ?_ | with_reducible refine rd_lst ?_ | with_reducible refine rd_fld ?_ | with_reducible refine rd_cb ?_ | with_reducible refine rd_un ?_ | with_reducible refine rd_makeR ?_ | with_reducible refine rd_makeS ?_
  | with_reducible refine rd_bm ?_ | with_reducible refine rd_bm0 ?_ | with_reducible refine rd_next ?_ | with_reducible refine rd_break ?_ | with_reducible refine rd_cont ?_ | with_reducible refine rd_ret ?_ | with_reducible refine rd_retN ?_ | with_reducible refine rd_drop ?_ | with_reducible refine rd_gcons ?_ | with_reducible refine rd_gnil ?_ | with_reducible refine rd_gsub ?_
  | ((with_reducible refine' rd_aug ?k1 ?_); (case k1 => rfl)) | with_reducible refine rd_ipI ?_ | with_reducible refine rd_sfld ?_ | with_reducible refine rd_for ?_ | with_reducible refine rd_iStr ?_ | with_reducible refine rd_iList ?_ | with_reducible refine rd_iTup ?_ | with_reducible refine rd_iRng1 ?_ | with_reducible refine rd_iRng2 ?_ | with_reducible refine rd_iEnumT ?_ | with_reducible refine rd_match ?_ | with_reducible refine rd_par ?_ | with_reducible refine rd_two ?_
  | with_reducible refine rd_sl ?_ | with_reducible refine rd_noPart ?_ | with_reducible refine rd_part ?_ | with_reducible refine rd_pint ?_ | with_reducible refine rd_listRg ?_ | with_reducible refine rd_rg1 ?_ | with_reducible refine rd_rg2 ?_ | with_reducible refine rd_ixO ?_ | with_reducible refine rd_U ?_ | with_reducible refine rd_int_int ?_ | with_reducible refine rd_int_bl ?_ | with_reducible refine rd_min2 ?_ | with_reducible refine rd_max2 ?_ | with_reducible refine rd_in_sign ?_ | with_reducible refine rd_isN ?_ | with_reducible refine rd_notN ?_
  | with_reducible refine rd_lc ?_ | with_reducible refine rd_yes ?_ | with_reducible refine rd_prop ?_ | with_reducible refine rd_cmeth ?_ | with_reducible refine rd_o ?_ | with_reducible refine rd_add_int ?_ | with_reducible refine rd_sub ?_ | with_reducible refine rd_eq_int ?_ | with_reducible refine rd_eq_str ?_ | with_reducible refine rd_eq_bl ?_ | with_reducible refine rd_ne_int ?_ | with_reducible refine rd_ne_str ?_ | with_reducible refine rd_ne_bl ?_ | with_reducible refine rd_I0 ?_
  | with_reducible refine rd_isi_int_int ?_ | with_reducible refine rd_isi_int_bool ?_ | with_reducible refine rd_isi_int_str ?_ | with_reducible refine rd_isi_int_list ?_ | with_reducible refine rd_isi_int_tuple ?_ | with_reducible refine rd_isi_bl_int ?_ | with_reducible refine rd_isi_bl_bool ?_ | with_reducible refine rd_isi_bl_str ?_ | with_reducible refine rd_isi_bl_list ?_ | with_reducible refine rd_isi_bl_tuple ?_ | with_reducible refine rd_isi_str_int ?_ | with_reducible refine rd_isi_str_bool ?_ | with_reducible refine rd_isi_str_str ?_ | with_reducible refine rd_isi_str_list ?_ | with_reducible refine rd_isi_str_tuple ?_ | with_reducible refine rd_isi_non_int ?_ | with_reducible refine rd_isi_non_bool ?_ | with_reducible refine rd_isi_non_str ?_ | with_reducible refine rd_isi_non_list ?_ | with_reducible refine rd_isi_non_tuple ?_)
local macro_rules | `(tactic| walk_at "rd_Fr") => `(tactic| repeat walk_at "rd1_Fr")
local macro_rules | `(tactic| walk_at "same_Fr") => `(tactic| first | assumption | exact Same.refl _ | (refine Same.new ?_ (by assumption); walk_at "same_Fr") | (refine Same.mut ?_ (by assumption); walk_at "same_Fr") | (refine Same.trans ?_ (by assumption); walk_at "same_Fr"))
section
variable {P : Program} {w : World} {K : PySem.W.Frag} {mg : Str → Option Value} {base : Heap} {CText CPart CEditor CDecoder CTextError CInvalidStep CInvalidOperation CDecodeError CNotationError CTooLong CInvalidPlace CInvalidLetter CContradiction CInvalidCount c_law p_law : Addr}
theorem ok_DecodeError_init (T : Txt K mg CText CPart CEditor CDecoder CTextError CInvalidStep CInvalidOperation CDecodeError CNotationError CTooLong CInvalidPlace CInvalidLetter CContradiction CInvalidCount c_law p_law) : IOk P w K mg base 1 CDecodeError ["self", "offset"] (sp_xi1 CDecodeError "offset") := by
  refine T.d_DecodeError_init.ok sc_DecodeError_init (fun vs H Q E h => ?len) (fun f cdv A outer s H vs Q E hr h => ?_)
  case len => obtain ⟨a, i, rfl, _⟩ := h; rfl
  · obtain ⟨a, i, rfl, hi, ha, k⟩ := h
    refine ⟨_, (pss_cons (ps_expr (pe_xinitK (K := K) rfl T.xb_TextError (pa_cons (pv 0) (pa_cons (pe_joined (PJ.cons pe_str (PJ.cons (pe_fmt (pv 1)) PJ.nil))) pa_nil))))
    (pss_one (ps_ostK (K := K) rfl (pv 0) (pv 1)))), ?_⟩
    walk_at "rd_Fr"
    refine rd_veI ?_
    walk_at "rd_Fr"
    refine rd_jlit (by decide +kernel) (rd_jnum rfl hi (by decide +kernel) fun y hy => rd_jnil ?_)
    walk_at "rd_Fr"
    refine rd_veI1 T.x_DecodeError.oex ha ?_
    refine rd_ost ?_
    walk_at "rd_Fr"
    exact rd_ost1 T.x_DecodeError.oex (T.x_DecodeError.no _ (.head _)) ha k
end
section
variable {P : Program} {w : World} {K : PySem.W.Frag} {mg : Str → Option Value} {base : Heap} {CText CPart CEditor CDecoder CTextError CInvalidStep CInvalidOperation CDecodeError CNotationError CTooLong CInvalidPlace CInvalidLetter CContradiction CInvalidCount c_law p_law : Addr}
theorem ok_x_law_dice (T : Txt K mg CText CPart CEditor CDecoder CTextError CInvalidStep CInvalidOperation CDecodeError CNotationError CTooLong CInvalidPlace CInvalidLetter CContradiction CInvalidCount c_law p_law) : GOk P w K mg base CX0 1 "_law_dice" (sp_x_law_dice K) := by
  refine T.d_x_law_dice.ok sc_x_law_dice (fun vs H Q E h => ?len) (fun f cdv A outer s H vs Q E hr h => ?_)
  case len => obtain ⟨a, sc, rfl, _⟩ := h; rfl
  · obtain ⟨a, sc, rfl, ha, k⟩ := h
    refine ⟨_, (pss_cons (ps_set (i := 1) sc_x_law_dice.nd rfl (Or.inl rfl) pe_int)
    (pss_cons (ps_for PassesOwn.never rfl (pi_listK (K := K) rfl (pv 0)) (pg_name (i := 2) sc_x_law_dice.nd rfl (Or.inl rfl)) (pss_one (ps_set (i := 1) sc_x_law_dice.nd rfl (Or.inl rfl) (pe_op op_mod (pe_callTy cInt rfl T.n_int (by decide +kernel) (pa_cons (pe_op (addK (K := K) rfl) (pe_op (addK (K := K) rfl) (pe_op oMul (pv 1) pe_int) (pe_op oMul (pe_op op_mod (pe_callTy cInt rfl T.n_int (by decide +kernel) (pa_cons (pv 2) pa_nil)) pe_int) pe_int)) pe_int) pa_nil)) pe_int))))
    (pss_one (ps_ret (pe_lst (pa_cons (pv 0) (pa_cons pe_int (pa_cons (pe_op oMul (pv 1) (pe_callTy cInt rfl T.n_int (by decide +kernel) (pa_cons (pe_cmpR op_gt (pe_callB (lenK (K := K) rfl) rfl T.n_len (by decide +kernel) (pa_cons (pv 0) pa_nil)) pe_int (nomark _)) pa_nil))) (pa_cons pe_int pa_nil))))))))), ?_⟩
    refine rd_startE (show start N_x_law_dice [.ref a] = [some (.ref a), none, none] from rfl) ?_
    walk_at "rd_Fr"
    refine ⟨_, rfl, ⟨_, ha⟩, for_list (xs := sc.map V.int) (fun i σ H' => ∃ m : Int, ∃ v2, σ = [some (.ref a), some (.int m), v2] ∧ H' = H ∧ 0 ≤ m ∧ m < 2147483647) ⟨0, _, rfl, rfl, by omega, by omega⟩ (fun i σ H' _ ⟨_, _, _, e, _⟩ => by rw [e]; exact ha) ?_ ?_⟩
    · rintro i v σ H' hv ⟨m, v2, rfl, rfl, m0, m1⟩
      rw [List.getElem?_map] at hv
      obtain ⟨c, hc, rfl⟩ := Option.map_eq_some_iff.mp hv
      walk_at "rd_Fr"
      refine rd_mul_int (.inr ⟨by decide, by decide⟩) ?_
      walk_at "rd_Fr"
      refine rd_I (by decide) ?_
      walk_at "rd_Fr"
      refine rd_mul_int (.inr ⟨by decide, by decide⟩) ?_
      walk_at "rd_Fr"
      refine rd_I (by decide) ?_
      walk_at "rd_Fr"
      exact ⟨_, _, rfl, rfl, Int.emod_nonneg _ (by decide), Int.emod_lt_of_pos _ (by decide)⟩
    · rintro σ H' ⟨m, v2, rfl, rfl, m0, m1⟩
      walk_at "rd_Fr"
      refine rd_len_lst ha ?_
      walk_at "rd_Fr"
      refine rd_mul_int (.inl ⟨by omega, by omega⟩) ?_
      walk_at "rd_Fr"
      refine ⟨by rw [sizeLine_eq]; show 4 ≤ 16777216; decide, fun r n1 => ?_⟩
      exact k r _ (Same.new (Same.refl _) n1) n1 ⟨a, sc, 0, _, _, upd_same, (Same.new (Same.refl _) n1).seq ha⟩
end
section
variable {P : Program} {w : World} {K : PySem.W.Frag} {mg : Str → Option Value} {base : Heap} {CText CPart CEditor CDecoder CTextError CInvalidStep CInvalidOperation CDecodeError CNotationError CTooLong CInvalidPlace CInvalidLetter CContradiction CInvalidCount c_law p_law : Addr}
theorem ok_x_law_next (T : Txt K mg CText CPart CEditor CDecoder CTextError CInvalidStep CInvalidOperation CDecodeError CNotationError CTooLong CInvalidPlace CInvalidLetter CContradiction CInvalidCount c_law p_law) : GOk P w K mg base CX0 1 "_law_next" (sp_x_law_next K) := by
  refine T.d_x_law_next.ok sc_x_law_next (fun vs H Q E h => ?len) (fun f cdv A outer s H vs Q E hr h => ?_)
  case len => obtain ⟨r, many, rfl, _⟩ := h; rfl
  · obtain ⟨r, many, rfl, ⟨sa, sc, i, sd, e, hr', hsc⟩, m1, m2, k⟩ := h
    refine ⟨_, (pss_cons (ps_if (pt_cmpR op_gt (pe_ix (ixK (K := K) rfl) (pv 0) pe_int (fun _ _ => rfl)) pe_int (nomark _)) (pss_cons (ps_set (i := 2) sc_x_law_next.nd rfl (Or.inl rfl) (pe_op op_mod (pe_callTy cInt rfl T.n_int (by decide +kernel) (pa_cons (pe_ix (ixK (K := K) rfl) (pv 0) pe_int (fun _ _ => rfl)) pa_nil)) (pv 1)))
    (pss_cons (ps_asg (pe_op op_fdivW (pe_ix (ixK (K := K) rfl) (pv 0) pe_int (fun _ _ => rfl)) (pv 1)) (pg_sub (pv 0) pe_int set_list))
    (pss_one (ps_ret (pv 2)))))
    pss_nil)
    (pss_cons (ps_asg (pe_op (addK (K := K) rfl) (pe_ix (ixK (K := K) rfl) (pv 0) pe_int (fun _ _ => rfl)) pe_int) (pg_sub (pv 0) pe_int set_list))
    (pss_cons (ps_if (pt_cmpR op_le (pe_ix (ixK (K := K) rfl) (pv 0) pe_int (fun _ _ => rfl)) (pe_callB (lenK (K := K) rfl) rfl T.n_len (by decide +kernel) (pa_cons (pe_ix (ixK (K := K) rfl) (pv 0) pe_int (fun _ _ => rfl)) pa_nil)) (nomark _)) (pss_cons (ps_set (i := 3) sc_x_law_next.nd rfl (Or.inl rfl) (pe_ix (ixK (K := K) rfl) (pe_ix (ixK (K := K) rfl) (pv 0) pe_int (fun _ _ => rfl)) (pe_op op_sub (pe_ix (ixK (K := K) rfl) (pv 0) pe_int (fun _ _ => rfl)) pe_int) (fun _ _ => rfl)))
    (pss_cons (ps_asg (pe_ifExp (pt_cmpR op_ge (pv 3) (pe_op op_pow pe_int pe_int) (nomark _)) (pe_op op_fdivW (pv 3) (pv 1)) pe_int) (pg_sub (pv 0) pe_int set_list))
    (pss_one (ps_ret (pe_op op_mod (pe_callTy cInt rfl T.n_int (by decide +kernel) (pa_cons (pv 3) pa_nil)) (pv 1))))))
    pss_nil)
    (pss_cons (ps_asg (pe_op op_mod (pe_callTy cInt rfl T.n_int (by decide +kernel) (pa_cons (pe_op oMul (pe_ix (ixK (K := K) rfl) (pv 0) pe_int (fun _ _ => rfl)) pe_int) pa_nil)) pe_int) (pg_sub (pv 0) pe_int set_list))
    (pss_one (ps_ret (pe_op op_mod (pe_callTy cInt rfl T.n_int (by decide +kernel) (pa_cons (pe_op op_fdiv (pe_ix (ixK (K := K) rfl) (pv 0) pe_int (fun _ _ => rfl)) pe_int) pa_nil)) (pv 1)))))))), ?_⟩
    walk_at "rd_Fr"
    refine rd_ixI ?_ (SqL.of hr') rfl
    walk_at "rd_Fr"
    refine rd_ite (fun h1 => ?_) (fun h1 => ?_)
    · walk_at "rd_Fr"
      refine rd_ixI ?_ (SqL.of hr') rfl
      walk_at "rd_Fr"
      refine rd_I (by omega) ?_
      walk_at "rd_Fr"
      refine rd_ixI ?_ (SqL.of hr') rfl
      walk_at "rd_Fr"
      refine rd_I (wide_div (b := 62) (by omega) (by omega) (by decide) (by decide)) ?_
      walk_at "rd_Fr"
      refine rd_setL (j := 3) hr' rfl ?_
      walk_at "rd_Fr"
      obtain ⟨a1, a2, a3⟩ := row_put (j := i) (s' := sd) (e' := e / (many : Nat)) Kp.refl hr' hsc
      exact take_fin m1 e fun n hn => k n _ hn a1 ⟨sa, sc, _, _, _, a2, a3⟩
    · walk_at "rd_Fr"
      refine rd_ixI ?_ (SqL.of hr') rfl
      walk_at "rd_Fr"
      refine rd_setL (j := 1) hr' rfl ?_
      walk_at "rd_Fr"
      obtain ⟨a1, a2, a3⟩ := row_put (j := i + 1) (s' := sd) (e' := e) Kp.refl hr' hsc
      rw [show ([V.ref sa, .int i, .int sd, .int e].set 1 (.int ((i : Int) + 1))) = [V.ref sa, .int (i + 1 : Nat), .int sd, .int e] from rfl]
      revert a1 a2 a3
      generalize upd H r (.lst [V.ref sa, .int (i + 1 : Nat), .int sd, .int e]) = Ha
      intro a1 a2 a3
      refine rd_ixI ?_ (SqL.of a2) rfl
      walk_at "rd_Fr"
      refine rd_ixI ?_ (SqL.of a2) rfl
      walk_at "rd_Fr"
      refine rd_len_lst a3 ?_
      walk_at "rd_Fr"
      rw [List.length_map]
      refine rd_ite (fun h2 => ?_) (fun h2 => ?_)
      · walk_at "rd_Fr"
        refine rd_ixI ?_ (SqL.of a2) rfl
        walk_at "rd_Fr"
        refine rd_ixI ?_ (SqL.of a2) rfl
        walk_at "rd_Fr"
        rw [show ((i + 1 : Nat) : Int) - 1 = (i : Nat) by omega]
        have hi : i < sc.length := by omega
        refine rd_ixLn a3 (v := .int sc[i]) (by rw [List.getElem?_map, List.getElem?_eq_getElem hi]; rfl) ?_
        walk_at "rd_Fr"
        generalize sc[i] = cell
        refine rd_I ⟨by decide, by decide, by decide⟩ ?_
        walk_at "rd_Fr"
        refine rd_ite (fun h3 => ?_) (fun h3 => ?_)
        · walk_at "rd_Fr"
          refine rd_I (wide_div (b := 62) (by omega) (by omega) (by decide) (by decide)) ?_
          walk_at "rd_Fr"
          refine rd_setL (j := 3) a2 rfl ?_
          walk_at "rd_Fr"
          refine rd_I (by omega) ?_
          obtain ⟨c1, c2, c3⟩ := row_put (j := i + 1) (s' := sd) (e' := cell / (many : Nat)) a1 a2 a3
          exact take_fin m1 _ fun n hn => k n _ hn c1 ⟨sa, sc, _, _, _, c2, c3⟩
        · walk_at "rd_Fr"
          refine rd_setL (j := 3) a2 rfl ?_
          walk_at "rd_Fr"
          refine rd_I (by omega) ?_
          obtain ⟨c1, c2, c3⟩ := row_put (j := i + 1) (s' := sd) (e' := 0) a1 a2 a3
          exact take_fin m1 _ fun n hn => k n _ hn c1 ⟨sa, sc, _, _, _, c2, c3⟩
      · walk_at "rd_Fr"
        refine rd_ixI ?_ (SqL.of a2) rfl
        walk_at "rd_Fr"
        refine rd_mul_int (.inr ⟨by decide, by decide⟩) ?_
        walk_at "rd_Fr"
        refine rd_I (by decide) ?_
        walk_at "rd_Fr"
        refine rd_setL (j := 2) a2 rfl ?_
        walk_at "rd_Fr"
        obtain ⟨b1, b2, b3⟩ := row_put (j := i + 1) (s' := (sd * 48271) % 2147483647) (e' := e) a1 a2 a3
        refine rd_ixI ?_ (SqL.of b2) rfl
        walk_at "rd_Fr"
        refine rd_I ⟨by decide, by decide⟩ ?_
        walk_at "rd_Fr"
        refine rd_I (by omega) ?_
        exact take_fin m1 _ fun n hn => k n _ hn b1 ⟨sa, sc, _, _, _, b2, b3⟩
end
section
variable {P : Program} {w : World} {K : PySem.W.Frag} {mg : Str → Option Value} {base : Heap} {CText CPart CEditor CDecoder CTextError CInvalidStep CInvalidOperation CDecodeError CNotationError CTooLong CInvalidPlace CInvalidLetter CContradiction CInvalidCount c_law p_law : Addr}
theorem ok_x_law_pick (T : Txt K mg CText CPart CEditor CDecoder CTextError CInvalidStep CInvalidOperation CDecodeError CNotationError CTooLong CInvalidPlace CInvalidLetter CContradiction CInvalidCount c_law p_law) : GOk P w K mg base CX0 2 "_law_pick" (sp_x_law_pick K) := by
  refine T.d_x_law_pick.ok sc_x_law_pick (fun vs H Q E h => ?len) (fun f cdv A outer s H vs Q E hr h => ?_)
  case len => obtain ⟨r, l, xs, rfl, _⟩ := h; rfl
  · obtain ⟨r, l, xs, rfl, row, hx, hk, h1, h2, k⟩ := h
    refine ⟨_, (pss_one (ps_ret (pe_ix (ixK (K := K) rfl) (pv 1) (pe_g (ok_x_law_next (K := K) T) (hr.mono (by decide)) pass0 (pa_cons (pv 0) (pa_cons (pe_callB (lenK (K := K) rfl) rfl T.n_len (by decide +kernel) (pa_cons (pv 1) pa_nil)) pa_nil))) (fun _ _ => rfl)))), ?_⟩
    refine rd_startE (show start N_x_law_pick [.ref r, .ref l] = [some (.ref r), some (.ref l)] from rfl) ?_
    walk_at "rd_Fr"
    refine rd_len_lst hx ?_
    walk_at "rd_Fr"
    refine rd_nextD row (by omega) (by rw [sizeLine_eq] at h2; omega) fun n H1 hn k1 row1 => ?_
    have hn' : n < xs.length := by omega
    refine rd_ixLn (hk hx _ k1) (List.getElem?_eq_getElem hn') ?_
    exact k n _ H1 (List.getElem?_eq_getElem hn') k1 row1
end
local macro_rules | `(tactic| walk_at "rd1_Fa") => `(tactic| first
  | with_reducible refine rd_seq ?_ | with_reducible refine rd_asg ?_ | with_reducible refine rd_name ?_ | ((with_reducible refine' rd_var ?k1 ?_); (case k1 => rfl)) | with_reducible refine rd_C ?_ | with_reducible refine rd_op ?_ | with_reducible refine rd_cons ?_ | with_reducible refine rd_nil ?_
  | with_reducible refine rd_test ?_ | with_reducible refine rd_tB ?_ | with_reducible refine rd_bl ?_ | with_reducible refine rd_ifS ?_ | with_reducible refine rd_and ?_ | with_reducible refine rd_or ?_ | with_reducible refine rd_not ?_ | with_reducible refine rd_andV ?_ | with_reducible refine rd_orV ?_ | with_reducible refine rd_notV ?_ | with_reducible refine rd_chain ?_
  | with_reducible refine rd_if ?_ | with_reducible refine rd_g ?_ | with_reducible refine rd_m ?_ | with_reducible refine rd_star ?_ | with_reducible refine rd_tup ?_ | with_reducible refine rd_lst ?_ | with_reducible refine rd_fld ?_ | with_reducible refine rd_cb ?_ | with_reducible refine rd_un ?_ | with_reducible refine rd_makeR ?_ | with_reducible refine rd_makeS ?_
  | with_reducible refine rd_bm ?_ | with_reducible refine rd_bm0 ?_ | with_reducible refine rd_next ?_ | with_reducible refine rd_break ?_ | with_reducible refine rd_cont ?_ | with_reducible refine rd_ret ?_ | with_reducible refine rd_retN ?_ | with_reducible refine rd_drop ?_ | with_reducible refine rd_gcons ?_ | with_reducible refine rd_gnil ?_ | with_reducible refine rd_gsub ?_
  | ((with_reducible refine' rd_aug ?k1 ?_); (case k1 => rfl)) | with_reducible refine rd_ipI ?_ | with_reducible refine rd_sfld ?_ | with_reducible refine rd_for ?_ | with_reducible refine rd_iStr ?_ | with_reducible refine rd_iList ?_ | with_reducible refine rd_iTup ?_ | with_reducible refine rd_iRng1 ?_ | with_reducible refine rd_iRng2 ?_ | with_reducible refine rd_iEnumT ?_ | with_reducible refine rd_match ?_ | with_reducible refine rd_par ?_ | with_reducible refine rd_two ?_
  | with_reducible refine rd_sl ?_ | with_reducible refine rd_noPart ?_ | with_reducible refine rd_part ?_ | with_reducible refine rd_pint ?_ | with_reducible refine rd_listRg ?_ | with_reducible refine rd_rg1 ?_ | with_reducible refine rd_rg2 ?_ | with_reducible refine rd_ixO ?_ | with_reducible refine rd_U ?_ | with_reducible refine rd_int_int ?_ | with_reducible refine rd_int_bl ?_ | with_reducible refine rd_min2 ?_ | with_reducible refine rd_max2 ?_ | with_reducible refine rd_in_sign ?_ | with_reducible refine rd_isN ?_ | with_reducible refine rd_notN ?_
  | with_reducible refine rd_lc ?_ | with_reducible refine rd_yes ?_ | with_reducible refine rd_prop ?_ | with_reducible refine rd_cmeth ?_ | with_reducible refine rd_o ?_ | with_reducible refine rd_add_int ?_ | with_reducible refine rd_sub ?_ | with_reducible refine rd_eq_int ?_ | with_reducible refine rd_eq_str ?_ | with_reducible refine rd_eq_bl ?_ | with_reducible refine rd_ne_int ?_ | with_reducible refine rd_ne_str ?_ | with_reducible refine rd_ne_bl ?_ | with_reducible refine rd_I0 ?_
  | with_reducible refine rd_isi_int_int ?_ | with_reducible refine rd_isi_int_bool ?_ | with_reducible refine rd_isi_int_str ?_ | with_reducible refine rd_isi_int_list ?_ | with_reducible refine rd_isi_int_tuple ?_ | with_reducible refine rd_isi_bl_int ?_ | with_reducible refine rd_isi_bl_bool ?_ | with_reducible refine rd_isi_bl_str ?_ | with_reducible refine rd_isi_bl_list ?_ | with_reducible refine rd_isi_bl_tuple ?_ | with_reducible refine rd_isi_str_int ?_ | with_reducible refine rd_isi_str_bool ?_ | with_reducible refine rd_isi_str_str ?_ | with_reducible refine rd_isi_str_list ?_ | with_reducible refine rd_isi_str_tuple ?_ | with_reducible refine rd_isi_non_int ?_ | with_reducible refine rd_isi_non_bool ?_ | with_reducible refine rd_isi_non_str ?_ | with_reducible refine rd_isi_non_list ?_ | with_reducible refine rd_isi_non_tuple ?_)
local macro_rules | `(tactic| walk_at "rd_Fa") => `(tactic| repeat walk_at "rd1_Fa")
local macro_rules | `(tactic| walk_at "same_Fa") => `(tactic| first | assumption | exact Same.refl _ | (refine Same.new ?_ (by assumption); walk_at "same_Fa") | (refine Same.mut ?_ (by assumption); walk_at "same_Fa") | (refine Same.trans ?_ (by assumption); walk_at "same_Fa"))
local macro_rules | `(tactic| walk_at "zl_Fa") => `(tactic| (rw [sizeLine_eq]; first | decide | (simp only [List.length_cons, List.length_nil]; omega) | omega))
local macro_rules | `(tactic| walk_at "sm_Fa") => `(tactic| first | exact Same.refl _ | assumption | ((with_reducible refine' Same.trans ?sx ?sy); (case sy => assumption); (case sx => walk_at "sm_Fa")))
local macro_rules | `(tactic| walk_at "kp_Fa") => `(tactic| first | exact Kp.refl | assumption | ((with_reducible refine' Kp.trans ?kx ?ky); (case ky => assumption); (case kx => walk_at "kp_Fa")) | ((with_reducible refine' Kp.trans ?kx (Kp.same ?ky)); (case ky => assumption); (case kx => walk_at "kp_Fa")))
local macro_rules | `(tactic| walk_at "tx_Fa") => `(tactic| first | assumption | ((with_reducible refine' TX.kp ?tx1 ?tx2); (case tx1 => assumption); (case tx2 => walk_at "kp_Fa")))
local macro_rules | `(tactic| walk_at "ts_Fa") => `(tactic| first | assumption | ((with_reducible refine' TS'.kp ?tx1 ?tx2); (case tx1 => assumption); (case tx2 => walk_at "kp_Fa")) | ((with_reducible refine' ts_nil ?tx1); (case tx1 => assumption)))
local macro_rules | `(tactic| walk_at "sx_Fa") => `(tactic| first | assumption | ((with_reducible refine' SX.kp ?tx1 ?tx2); (case tx1 => assumption); (case tx2 => walk_at "kp_Fa")) | ((with_reducible refine' TS'.sx ?tx1); (case tx1 => walk_at "ts_Fa")))
local macro_rules | `(tactic| walk_at "row_Fa") => `(tactic| first | assumption | ((with_reducible refine' RowAt.mono ?tx1 ?tx2); (case tx1 => assumption); (case tx2 => walk_at "sm_Fa")))
local macro_rules | `(tactic| walk_at "ls_Fa") => `(tactic| first | assumption | ((with_reducible refine' kp_natV ?tx1 ?tx2); (case tx1 => assumption); (case tx2 => walk_at "kp_Fa")) | ((with_reducible refine' kp_sgV ?tx1 ?tx2); (case tx1 => assumption); (case tx2 => walk_at "kp_Fa")) | ((refine' Same.lk ?tx1 ?tx2); (case tx1 => assumption); (case tx2 => walk_at "sm_Fa")))
local macro_rules | `(tactic| walk_at "om_Fa") => `(tactic| first | omega | with_reducible assumption)
local macro_rules | `(tactic| walk_at "rd1_Fa") => `(tactic| first
  | with_reducible refine rd_cons ?_ | ((with_reducible refine' rd_var ?k1 ?_); (case k1 => rfl)) | with_reducible refine rd_C ?_ | with_reducible refine rd_nil ?_ | with_reducible refine rd_op ?_ | with_reducible refine rd_g ?_
  | ((with_reducible refine' rd_nameE ?k1 ?_); (case k1 => (dsimp only [List.set_cons_zero, List.set_cons_succ]; exact rfl))) | with_reducible refine rd_asg ?_ | with_reducible refine rd_seq ?_ | with_reducible refine rd_andrfl ?_ | with_reducible refine rd_prop ?_ | with_reducible refine rd_cb ?_ | with_reducible refine rd_test ?_ | with_reducible refine rd_bl ?_ | with_reducible refine rd_ifS ?_ | with_reducible refine rd_next ?_
  | with_reducible refine rd_tupN ?_ | with_reducible refine rd_lstN ?_ | with_reducible refine rd_add_int ?_ | with_reducible refine rd_sub ?_ | with_reducible refine rd_tB ?_ | with_reducible refine rd_not ?_ | with_reducible refine rd_and ?_ | with_reducible refine rd_or ?_ | with_reducible refine rd_ret ?_ | with_reducible refine rd_cmeth ?_ | with_reducible refine rd_o ?_ | with_reducible refine rd_I0 ?_
  | ((with_reducible show @Eq (Option HO) _ Option.none → _); intro) | with_reducible refine rd_m1 ?_ | with_reducible refine rd_exStr ?_ | ((with_reducible refine' rd_iNat ?k1 ?_); (case k1 => walk_at "ls_Fa"))
  | ((with_reducible refine' rd_taken ?k1 ?k2 ?k3 ?_); (case k1 => walk_at "row_Fa"); (case k2 => walk_at "om_Fa"); (case k3 => walk_at "om_Fa"))
  | ((with_reducible refine' rd_word ?k1 ?k2 ?k3 ?_); (case k1 => walk_at "row_Fa"); (case k2 => walk_at "om_Fa"); (case k3 => walk_at "om_Fa"))
  | ((with_reducible refine' rd_stepsL ?k1 ?k2 ?k3 ?k4 ?k5 ?_); (case k1 => walk_at "row_Fa"); (case k2 => walk_at "om_Fa"); (case k3 => walk_at "om_Fa"); (case k4 => walk_at "om_Fa"); (case k5 => walk_at "om_Fa"))
  | ((with_reducible refine' rd_listS ?k1 ?_); (case k1 => walk_at "ts_Fa"))
  | ((with_reducible refine' rd_ofSteps ?k1 ?k2 ?k3 ?_); (case k1 => walk_at "sx_Fa"); (case k2 => walk_at "om_Fa"); (case k3 => walk_at "om_Fa"))
  | ((with_reducible refine' rd_pSize ?k1 ?_); (case k1 => walk_at "tx_Fa"))
  | ((with_reducible refine' rd_pTyped ?k1 ?_); (case k1 => walk_at "tx_Fa"))
  | ((with_reducible refine' rd_pSteps ?k1 ?_); (case k1 => walk_at "tx_Fa"))
  | ((with_reducible refine' rd_oCall ?k1 ?k2 ?k3 ?_); (case k1 => walk_at "tx_Fa"); (case k2 => walk_at "om_Fa"); (case k3 => walk_at "om_Fa"))
  | ((with_reducible refine' rd_oItem ?k1 ?k2 ?k3 ?_); (case k1 => walk_at "tx_Fa"); (case k2 => walk_at "om_Fa"); (case k3 => walk_at "om_Fa"))
  | ((with_reducible refine' rd_opAdd ?k1 ?k2 ?k3 ?k4 ?_); (case k1 => walk_at "tx_Fa"); (case k2 => walk_at "tx_Fa"); (case k3 => walk_at "om_Fa"); (case k4 => walk_at "om_Fa"))
  | ((with_reducible refine' rd_opMul ?k1 ?k2 ?k3 ?k4 ?k5 ?_); (case k1 => walk_at "tx_Fa"); (case k2 => walk_at "om_Fa"); (case k3 => walk_at "om_Fa"); (case k4 => walk_at "om_Fa"); (case k5 => walk_at "om_Fa"))
  | ((with_reducible refine' rd_opEq ?k1 ?k2 ?_); (case k1 => walk_at "tx_Fa"); (case k2 => walk_at "tx_Fa"))
  | ((with_reducible refine' rd_opEqT ?k1 ?k2 ?_); (case k1 => walk_at "tx_Fa"); (case k2 => walk_at "ts_Fa"))
  | ((with_reducible refine' rd_opNe ?k1 ?k2 ?_); (case k1 => walk_at "tx_Fa"); (case k2 => walk_at "tx_Fa"))
  | ((with_reducible refine' rd_mTx ?k1 ?k2 ?_); (case k1 => walk_at "tx_Fa"); (case k2 => decide +kernel))
  | ((with_reducible refine' rd_mRetyped ?k1 ?k2 ?k3 ?_); (case k1 => walk_at "tx_Fa"); (case k2 => walk_at "om_Fa"); (case k3 => walk_at "om_Fa"))
  | ((with_reducible refine' rd_eqTT ?k1 ?k2 ?k3 ?k4 ?_); (case k1 => walk_at "ts_Fa"); (case k2 => walk_at "ts_Fa"); (case k3 => first | assumption | trivial); (case k4 => first | assumption | trivial))
  | ((with_reducible refine' rd_neTT ?k1 ?k2 ?k3 ?k4 ?_); (case k1 => walk_at "ts_Fa"); (case k2 => walk_at "ts_Fa"); (case k3 => first | assumption | trivial); (case k4 => first | assumption | trivial))
  | ((with_reducible refine' rd_neNN ?k1 ?k2 ?_); (case k1 => walk_at "ls_Fa"); (case k2 => walk_at "ls_Fa"))
  | ((with_reducible refine' rd_eqNN ?k1 ?k2 ?_); (case k1 => walk_at "ls_Fa"); (case k2 => walk_at "ls_Fa"))
  | ((with_reducible refine' rd_lenN ?k1 ?_); (case k1 => walk_at "ls_Fa"))
  | ((with_reducible refine' rd_lenS ?k1 ?_); (case k1 => walk_at "om_Fa"))
  | ((with_reducible refine' rd_ixN ?k1 ?k2 ?k3 ?_); (case k1 => walk_at "ls_Fa"); (case k2 => walk_at "om_Fa"); (case k3 => walk_at "om_Fa"))
  | ((with_reducible refine' rd_ixC ?k1 ?k2 ?k3 ?_); (case k1 => walk_at "om_Fa"); (case k2 => walk_at "om_Fa"); (case k3 => walk_at "om_Fa"))
  | ((with_reducible refine' rd_gtup ?k1 ?k2 ?_); (case k1 => exact SqT.of (by assumption)); (case k2 => rfl))
  | ((with_reducible refine' rd_new ?k1 ?_); (case k1 => walk_at "zl_Fa"))
  | with_reducible refine rd_ref1 ?_
  | with_reducible refine rd_nF rfl ?_ | with_reducible refine rd_dT rfl ?_ | with_reducible refine rd_cT rfl ?_ | with_reducible refine rd_cF rfl ?_
  | ((with_reducible refine' rd_dT ?k1 ?_); (case k1 => omega)) | ((with_reducible refine' rd_dF ?k1 ?_); (case k1 => omega)) | ((with_reducible refine' rd_nT ?k1 ?_); (case k1 => omega)) | ((with_reducible refine' rd_nF ?k1 ?_); (case k1 => omega)))
local macro_rules | `(tactic| walk_at "rdS_Fa") => `(tactic| repeat ((fail_if_success with_reducible show tIfS _ _ _ _ _ _); walk_at "rd1_Fa"))
section
variable {P : Program} {w : World} {K : PySem.W.Frag} {mg : Str → Option Value} {base : Heap} {CText CPart CEditor CDecoder CTextError CInvalidStep CInvalidOperation CDecodeError CNotationError CTooLong CInvalidPlace CInvalidLetter CContradiction CInvalidCount c_law p_law : Addr}
theorem okR_pack_bytes (T : Txt K mg CText CPart CEditor CDecoder CTextError CInvalidStep CInvalidOperation CDecodeError CNotationError CTooLong CInvalidPlace CInvalidLetter CContradiction CInvalidCount c_law p_law) : GOk P w K mg base (L2.CX P w) 4 "pack_bytes" (sp_pack_bytesR K CInvalidCount) := by
  refine T.d_pack_bytes.okX sc_pack_bytes (fun vs H Q E h => ?len) (fun f cdv A outer s H vs Q E hr h => ?_)
  case len => obtain ⟨v, rfl, _⟩ := h; rfl
  · obtain ⟨v, rfl, hv⟩ := h
    obtain ⟨t_BYTE, h_BYTE⟩ := T.k_BYTE; refine ⟨_, (pss_cons (ps_if (PW.pt (pw_or (pt_not (pt_val (pe_callB (isiK (K := K) rfl) rfl T.n_isinstance (by decide +kernel) (pa_cons (pv 0) (pa_cons (pe_bltn (v := .ty "list") rfl T.n_list (by decide +kernel) rfl) pa_nil))))) (pw_or1 (pt_not (pt_val (pe_callB (allK (K := K) rfl rfl) rfl T.n_all (by decide +kernel) (pa_cons (pe_lc (own := [("value", 1)]) rfl sc_pack_bytes.nd (pi_listK (K := K) rfl (pv 0)) (blkOk_by (own := [("value", 1)]) (N := N_pack_bytes) (sc := (defScope s_pack_bytes)) (by first | decide +kernel | rfl)) (fun _ _ _ _ _ => (pg_name (i := 1) sc_pack_bytes.nd rfl (Or.inl rfl))) (fun _ _ _ _ _ => pts_nil) (fun _ _ _ _ _ => (pe_g (ok_is_integer (K := K) T) (hr.mono (by decide)) pass0 (pa_cons (pv 1) (pa_cons pe_int (pa_cons (pe_op op_sub (pe_glob (v := .int 256) rfl h_BYTE ⟨_, rfl⟩) pe_int) pa_nil)))))) pa_nil))))))) (pss_one (ps_rz T.x_InvalidCount (takes_of rfl rfl rfl rfl)))
    pss_nil)
    (pss_one (ps_ret (pe_callTy (bytesK (K := K) rfl rfl) rfl T.n_bytes (by decide +kernel) (pa_cons (pv 0) pa_nil))))), ?_⟩
    refine rd_startE (show start N_pack_bytes [v] = [some (v), none] from rfl) ?_
    walk_at "rd_Fa"
    rcases hv with ⟨l, L, rfl, el, h8, k⟩ | ⟨hb, k⟩
    · refine rd_isi_lst_list (SqL.of el) ?_
      walk_at "rd_Fa"
      refine fun D hD => lc_fun (plain_nat el) hD (by rw [sizeLine_eq]; have := h8.1; omega) (fun _ => rfl) (fun i => .bl true) (fun i Ha Qa hi Sa q => ?_) fun Hd Sd ed => ?_
      · walk_at "rd_Fa"
        have hL := h8.2 _ (List.getElem_mem hi)
        refine ⟨_, _, _, rfl, trivial, ?_⟩
        rw [List.getElem?_eq_getElem hi, Option.getD_some, show isInt 0 (256 - 1) (V.int (L[i] : Nat)) = true from decide_eq_true (by omega)]
        exact q _ (Same.refl _)
      · walk_at "rd_Fa"
        rw [show (List.range L.length).map (fun i => V.bl true) = ((List.range L.length).map fun i => true).map V.bl by rw [List.map_map]; rfl] at ed
        refine rd_all (SqL.of ed) ?_
        rw [show ((List.range L.length).map fun i => true).all id = true by rw [List.all_map, List.all_eq_true]; intro x _; rfl]
        walk_at "rd_Fa"
        refine rd_bytesN (Sd _ _ el) h8.2 ?_
        exact k _ Sd
    · rcases hb with rfl | ⟨a, xs, rfl, ha⟩ | ⟨a, xs, rfl, ha, hl, hns, hbad⟩
      · walk_at "rd_Fa"
        refine rd_rz ?_
        exact k _ (Same.refl _)
      · refine rd_isi_tup_list ha ?_
        walk_at "rd_Fa"
        refine rd_rz ?_
        exact k _ (Same.refl _)
      · refine rd_isi_lst_list (SqL.of ha) ?_
        walk_at "rd_Fa"
        refine ⟨⟨_, SqL.of ha⟩, fun D hD => lc_fun (plain_list (SqL.of ha)) hD (by rw [sizeLine_eq]; omega) (fun _ => rfl) (fun i => .bl (isInt 0 255 (xs[i]?.getD .non))) (fun i Ha Qa hi Sa q => ?_) fun Hd Sd ed => ?_⟩
        · walk_at "rd_Fa"
          refine ⟨_, _, _, rfl, ?_, q _ (Same.refl _)⟩
          rw [List.getElem?_eq_getElem hi]
          exact hns _ (List.getElem_mem hi)
        · walk_at "rd_Fa"
          rw [show (List.range xs.length).map (fun i => V.bl (isInt 0 255 (xs[i]?.getD .non))) = ((List.range xs.length).map fun i => isInt 0 255 (xs[i]?.getD .non)).map V.bl by rw [List.map_map]; rfl] at ed
          refine rd_all (SqL.of ed) ?_
          rw [show ((List.range xs.length).map fun i => isInt 0 255 (xs[i]?.getD .non)).all id = false by
            obtain ⟨x, hx, hf⟩ := hbad
            obtain ⟨i, hi, rfl⟩ := List.getElem_of_mem hx
            rw [List.all_map, List.all_eq_false]
            exact ⟨i, List.mem_range.mpr hi, by simp [List.getElem?_eq_getElem hi, hf]⟩]
          walk_at "rd_Fa"
          refine rd_rz ?_
          exact k _ Sd
end
section
variable {P : Program} {w : World} {K : PySem.W.Frag} {mg : Str → Option Value} {base : Heap} {CText CPart CEditor CDecoder CTextError CInvalidStep CInvalidOperation CDecodeError CNotationError CTooLong CInvalidPlace CInvalidLetter CContradiction CInvalidCount c_law p_law : Addr}
theorem ok_pack_bytes (T : Txt K mg CText CPart CEditor CDecoder CTextError CInvalidStep CInvalidOperation CDecodeError CNotationError CTooLong CInvalidPlace CInvalidLetter CContradiction CInvalidCount c_law p_law) : GOk P w K mg base CX0 4 "pack_bytes" (nox (sp_pack_bytesR K CInvalidCount)) := (okR_pack_bytes T).down
end
section
variable {P : Program} {w : World} {K : PySem.W.Frag} {mg : Str → Option Value} {base : Heap} {CText CPart CEditor CDecoder CTextError CInvalidStep CInvalidOperation CDecodeError CNotationError CTooLong CInvalidPlace CInvalidLetter CContradiction CInvalidCount c_law p_law : Addr}
theorem ok_unpack_bytes (T : Txt K mg CText CPart CEditor CDecoder CTextError CInvalidStep CInvalidOperation CDecodeError CNotationError CTooLong CInvalidPlace CInvalidLetter CContradiction CInvalidCount c_law p_law) : GOk P w K mg base CX0 1 "unpack_bytes" (sp_unpack_bytes ) := by
  refine T.d_unpack_bytes.ok sc_unpack_bytes (fun vs H Q E h => ?len) (fun f cdv A outer s H vs Q E hr h => ?_)
  case len => obtain ⟨b, rfl, _⟩ := h; rfl
  · obtain ⟨b, rfl, h8, k⟩ := h
    refine ⟨_, (pss_one (ps_ret (pe_callTy (listB rfl) rfl T.n_list (by decide +kernel) (pa_cons (pv 0) pa_nil)))), ?_⟩
    refine rd_startE (show start N_unpack_bytes [byV b] = [some (byV b)] from rfl) ?_
    walk_at "rd_Fa"
    refine rd_listBy h8 fun p H1 S1 n1 e1 => ?_
    exact k _ _ S1 n1 e1
end
section
variable {P : Program} {w : World} {K : PySem.W.Frag} {mg : Str → Option Value} {base : Heap} {CText CPart CEditor CDecoder CTextError CInvalidStep CInvalidOperation CDecodeError CNotationError CTooLong CInvalidPlace CInvalidLetter CContradiction CInvalidCount c_law p_law : Addr}
theorem ok_checksum_of (T : Txt K mg CText CPart CEditor CDecoder CTextError CInvalidStep CInvalidOperation CDecodeError CNotationError CTooLong CInvalidPlace CInvalidLetter CContradiction CInvalidCount c_law p_law) : GOk P w K mg base CX0 1 "checksum_of" (sp_checksum_of ) := by
  refine T.d_checksum_of.ok sc_checksum_of (fun vs H Q E h => ?len) (fun f cdv A outer s H vs Q E hr h => ?_)
  case len => obtain ⟨l, L, rfl, _⟩ := h; rfl
  · obtain ⟨l, L, rfl, el, k⟩ := h
    obtain ⟨t_CHECKSUM_MODULUS, h_CHECKSUM_MODULUS⟩ := T.k_CHECKSUM_MODULUS; refine ⟨_, (pss_cons (ps_set (i := 1) sc_checksum_of.nd rfl (Or.inl rfl) pe_int)
    (pss_cons (ps_for PassesOwn.never rfl (pi_listK (K := K) rfl (pv 0)) (pg_name (i := 2) sc_checksum_of.nd rfl (Or.inl rfl)) (pss_one (ps_set (i := 1) sc_checksum_of.nd rfl (Or.inl rfl) (pe_op op_mod (pe_callTy cInt rfl T.n_int (by decide +kernel) (pa_cons (pe_op (addK (K := K) rfl) (pe_op oMul (pv 1) pe_int) (pv 2)) pa_nil)) (pe_glob (v := .int 227) rfl h_CHECKSUM_MODULUS ⟨_, rfl⟩)))))
    (pss_one (ps_ret (pv 1))))), ?_⟩
    refine rd_startE (show start N_checksum_of [.ref l] = [some (.ref l), none, none] from rfl) ?_
    walk_at "rd_Fa"
    refine for_list (xs := natV L) (fun i σ H' => ∃ v2, σ = [some (.ref l), some (.int (ckS (L.take i) : Nat)), v2] ∧ H' = H) ⟨_, rfl, rfl⟩ (fun i σ H' _ z => by obtain ⟨_, _, rfl⟩ := z; exact SqL.of el) ?_ ?_
    · rintro i v σ H' hv ⟨v2, rfl, rfl⟩
      unfold natV at hv
      rw [List.getElem?_map] at hv
      obtain ⟨c, hc, rfl⟩ := Option.map_eq_some_iff.mp hv
      walk_at "rd_Fa"
      refine rd_mul_int (.inr (by decide)) ?_
      walk_at "rd_Fa"
      refine rd_I (by decide) ?_
      walk_at "rd_Fa"
      have e : ckS (L.take (i + 1)) = (ckS (L.take i) * 7 + c) % 227 := by rw [take_snoc hc, ckS_snoc]
      refine ⟨some (.int (c : Nat)), ?_, rfl⟩
      rw [e, show ((((ckS (L.take i) * 7 + c) % 227 : Nat)) : Int) = ((ckS (L.take i) : Nat) * 7 + (c : Nat)) % 227 by omega]
      rfl
    · rintro σ H' ⟨v2, rfl, rfl⟩
      walk_at "rd_Fa"
      rw [natV_len, List.take_length]
      exact k _ (Same.refl _)
end
section
variable {P : Program} {w : World} {K : PySem.W.Frag} {mg : Str → Option Value} {base : Heap} {CText CPart CEditor CDecoder CTextError CInvalidStep CInvalidOperation CDecodeError CNotationError CTooLong CInvalidPlace CInvalidLetter CContradiction CInvalidCount c_law p_law : Addr}
theorem ok_number_values (T : Txt K mg CText CPart CEditor CDecoder CTextError CInvalidStep CInvalidOperation CDecodeError CNotationError CTooLong CInvalidPlace CInvalidLetter CContradiction CInvalidCount c_law p_law) : GOk P w K mg base CX0 1 "number_values" (sp_number_values ) := by
  refine T.d_number_values.ok sc_number_values (fun vs H Q E h => ?len) (fun f cdv A outer s H vs Q E hr h => ?_)
  case len => obtain ⟨n, rfl, _⟩ := h; rfl
  · obtain ⟨n, rfl, hn, k⟩ := h
    obtain ⟨t_GROUP, h_GROUP⟩ := T.k_GROUP; refine ⟨_, (pss_cons (ps_set (i := 1) sc_number_values.nd rfl (Or.inl rfl) (pe_lst pa_nil))
    (pss_cons (ps_while PassesOwn.never (pt_cmpR op_ge (pv 0) (pe_glob (v := .int 128) rfl h_GROUP ⟨_, rfl⟩) (nomark _)) (pss_cons (ps_expr (pe_bmK (K := K) rfl PySem.F.plainAttrs_list PySem.F.slot_list_append PySem.F.type_list_append mt_append (pv 1) (pa_cons (pe_op (addK (K := K) rfl) (pe_glob (v := .int 128) rfl h_GROUP ⟨_, rfl⟩) (pe_op op_mod (pe_callTy cInt rfl T.n_int (by decide +kernel) (pa_cons (pv 0) pa_nil)) (pe_glob (v := .int 128) rfl h_GROUP ⟨_, rfl⟩))) pa_nil)))
    (pss_one (ps_aug (i := 0) sc_number_values.nd rfl (Or.inl rfl) (pe_glob (v := .int 128) rfl h_GROUP ⟨_, rfl⟩) ip_fdiv))))
    (pss_one (ps_ret (pe_lst (pa_starK (K := K) rfl (pv 1) (pa_cons (pv 0) pa_nil))))))), ?_⟩
    refine rd_startE (show start N_number_values [.int (n : Nat)] = [some (.int (n : Nat)), none] from rfl) ?_
    walk_at "rd_Fa"
    intro l H1 S1 e1 n1
    walk_at "rd_Fa"
    have n9 : (grpN n).length ≤ 9 := grpN_len 9 n (by decide) (Nat.lt_of_le_of_lt hn (by decide))
    refine rd_while (fun m σ H' => ∃ (a : Nat) (L : List Nat), σ = [some (.int (a : Nat)), some (.ref l)] ∧ Same H H' ∧ H' l = some (.lst (natV L)) ∧ grpN n = L ++ grpN a ∧ m = a) ⟨n, n, [], rfl, S1, e1, rfl, rfl⟩ ?_
    rintro m σ H' ⟨a, L, rfl, S, e, hg, rfl⟩
    have hL : L.length ≤ 9 := by rw [hg, List.length_append] at n9; omega
    walk_at "rd_Fa"
    refine rd_ite (fun h3 => ⟨_, fun σ' H'' z => z, ?_⟩) (fun h3 => ?_)
    · walk_at "rd_Fa"
      refine rd_tyL (SqL.of e) _ ?_
      walk_at "rd_Fa"
      refine rd_I (by decide) ?_
      walk_at "rd_Fa"
      refine rd_append e (by rw [natV_len, sizeLine_eq]; omega) ?_
      walk_at "rd_Fa"
      refine rd_I ⟨by decide, by decide⟩ ?_
      refine ⟨m / 128, by omega, m / 128, L ++ [128 + m % 128], ?_, Same.mut S n1, ?_, ?_, rfl⟩
      · rw [show (((m / 128 : Nat)) : Int) = (m : Nat) / 128 by omega]; rfl
      · rw [upd_same, natV_snoc, show (((128 + m % 128 : Nat)) : Int) = 128 + (m : Nat) % 128 by omega]
      · rw [hg, grpN_ge (by omega)]; simp
    · walk_at "rd_Fa"
      refine ⟨l, _, rfl, .inr (SqL.of e), ?_⟩
      walk_at "rd_Fa"
      rw [show natV L ++ [V.int (m : Nat)] = natV (grpN n) by rw [hg, grpN_lt (by omega), natV_snoc]]
      refine rd_new (by rw [natV_len, sizeLine_eq]; omega) fun p H2 S2 e2 n2 => ?_
      exact k _ _ (S.trans S2) (same_back S n2) e2
end
section
variable {P : Program} {w : World} {K : PySem.W.Frag} {mg : Str → Option Value} {base : Heap} {CText CPart CEditor CDecoder CTextError CInvalidStep CInvalidOperation CDecodeError CNotationError CTooLong CInvalidPlace CInvalidLetter CContradiction CInvalidCount c_law p_law : Addr}
theorem ok_encode_text (T : Txt K mg CText CPart CEditor CDecoder CTextError CInvalidStep CInvalidOperation CDecodeError CNotationError CTooLong CInvalidPlace CInvalidLetter CContradiction CInvalidCount c_law p_law) : GOk P w K mg base CX0 3 "encode_text" (sp_encode_text K CText CPart) := by
  refine T.d_encode_text.ok sc_encode_text (fun vs H Q E h => ?len) (fun f cdv A outer s H vs Q E hr h => ?_)
  case len => obtain ⟨a, ss, rfl, _⟩ := h; rfl
  · obtain ⟨a, ss, rfl, TT, k⟩ := h
    obtain ⟨t_FIRST_BYTE, h_FIRST_BYTE⟩ := T.k_FIRST_BYTE; obtain ⟨t_LETTERS, h_LETTERS⟩ := T.k_LETTERS; refine ⟨_, (pss_cons (ps_set (i := 1) sc_encode_text.nd rfl (Or.inl rfl) (pe_lst (pa_cons (pe_glob (v := .int 80) rfl h_FIRST_BYTE ⟨_, rfl⟩) (pa_cons (pe_callB (lenK (K := K) rfl) rfl T.n_len (by decide +kernel) (pa_cons (pe_p (pv 0) T.cText (ok_Text_steps (K := K) T) (hr.mono (by decide)) pass0) pa_nil)) pa_nil))))
    (pss_cons (ps_for PassesOwn.never rfl (pi_tupK (K := K) rfl (pe_p (pv 0) T.cText (ok_Text_steps (K := K) T) (hr.mono (by decide)) pass0)) (pg_name (i := 2) sc_encode_text.nd rfl (Or.inl rfl)) (pss_one (ps_if (pt_cmpR (eqK (K := K) rfl hr.units) (pe_ix (ixK (K := K) rfl) (pv 2) pe_int (fun _ _ => rfl)) pe_str (nomark _)) (pss_one (ps_expr (pe_bmK (K := K) rfl PySem.F.plainAttrs_list PySem.F.slot_list_extend PySem.F.type_list_extend mt_extend (pv 1) (pa_cons (pe_lst (pa_cons pe_int (pa_cons (pe_callB (lenK (K := K) rfl) rfl T.n_len (by decide +kernel) (pa_cons (pe_ix (ixK (K := K) rfl) (pv 2) pe_int (fun _ _ => rfl)) pa_nil)) (pa_starK (K := K) rfl (pe_lc (own := [("letter", 3)]) rfl sc_encode_text.nd (pi_str (pe_ix (ixK (K := K) rfl) (pv 2) pe_int (fun _ _ => rfl))) (blkOk_by (own := [("letter", 3)]) (N := N_encode_text) (sc := (defScope s_encode_text)) (by first | decide +kernel | rfl)) (fun _ _ _ _ _ => (pg_name (i := 3) sc_encode_text.nd rfl (Or.inl rfl))) (fun _ _ _ _ _ => pts_nil) (fun _ _ _ _ _ => (pe_bmK (K := K) rfl PySem.F.plainAttrs_str PySem.F.slot_str_index PySem.F.type_str_index mt_sindexA (pe_glob (v := .str "abcdefghijklmnopqrstuvwxyz") rfl h_LETTERS ⟨_, rfl⟩) (pa_cons (pv 3) pa_nil)))) pa_nil)))) pa_nil))))
    (pss_cons (ps_expr (pe_bmK (K := K) rfl PySem.F.plainAttrs_list PySem.F.slot_list_append PySem.F.type_list_append mt_append (pv 1) (pa_cons pe_int pa_nil)))
    (pss_one (ps_for PassesOwn.never rfl (pi_tupK (K := K) rfl (pe_slice (slTA (K := K) rfl) (pv 2) (po_some pe_int) po_none)) (pg_name (i := 4) sc_encode_text.nd rfl (Or.inl rfl)) (pss_one (ps_expr (pe_bmK (K := K) rfl PySem.F.plainAttrs_list PySem.F.slot_list_extend PySem.F.type_list_extend mt_extend (pv 1) (pa_cons (pe_g (ok_number_values (K := K) T) (hr.mono (by decide)) pass0 (pa_cons (pv 4) pa_nil)) pa_nil))))))))))
    (pss_one (ps_ret (pe_callTy (bytesK (K := K) rfl rfl) rfl T.n_bytes (by decide +kernel) (pa_cons (pe_lst (pa_starK (K := K) rfl (pv 1) (pa_cons (pe_g (ok_checksum_of (K := K) T) (hr.mono (by decide)) pass0 (pa_cons (pv 1) pa_nil)) pa_nil))) pa_nil)))))), ?_⟩
    refine rd_startE (show start N_encode_text [.ref a] = [some (.ref a), none, none, none, none] from rfl) ?_
    have few := TT.few
    have ok := TT.ok
    walk_at "rd_Fa"
    intro p ⟨ms, hm, hst⟩
    walk_at "rd_Fa"
    refine rd_len_tup hm ?_
    rw [hst.1]
    walk_at "rd_Fa"
    intro l H1 S1 e1 n1
    walk_at "rd_Fa"
    intro p2 ⟨ms2, hm2, hst2⟩
    have fl : ∀ i, (((ss.take i).map encS).flatten).length ≤ 1200 := fun i => by
      have o := ok_take ok i
      have := encF_len o (by decide)
      rw [List.length_take] at this
      omega
    refine ⟨p2, rfl, ⟨_, hm2⟩, for_tup (xs := ms2) (fun i σ H' => ∃ v2 v3 v4, σ = [some (.ref a), some (.ref l), v2, v3, v4] ∧ But l H1 H' ∧ Same H H' ∧ H' l = some (.lst (natV (80 :: ss.length :: ((ss.take i).map encS).flatten)))) ⟨_, _, _, rfl, But.refl, S1, e1⟩ (fun i σ H' _ z => ?_) ?_ ?_⟩
    · obtain ⟨_, _, _, _, B, _, _⟩ := z
      exact sqT_butL hm2 e1 B
    · rintro i v σ H' hv ⟨v2, v3, v4, rfl, B, S, e⟩
      have hi : i < ss.length := by rw [← hst2.1]; exact (List.getElem?_eq_some_iff.mp hv).1
      have hs := List.getElem?_eq_getElem hi
      have oks := ok_at ok hs
      generalize ss[i] = s at hs oks
      obtain ⟨v', hv', b, rfl, hq⟩ := hst2.2 i s hs
      rw [hv] at hv'
      cases hv'
      have hq := sqT_butL hq e1 B
      have fi := fl i
      have ftk : ((ss.take (i + 1)).map encS).flatten = ((ss.take i).map encS).flatten ++ encS s := by rw [take_snoc hs]; simp
      cases s with
      | wr w =>
        have hw : ∀ c ∈ tl w, 97 ≤ c ∧ c ≤ 122 := oks.1.2.2
        have hl : (tl w).length ≤ 20 := by rw [← len_tl]; exact oks.1.2.1
        walk_at "rd_Fa"
        refine rd_ixT (v := .str "write") ?_ hq rfl
        walk_at "rd_Fa"
        refine rd_tyL (SqL.of e) _ ?_
        walk_at "rd_Fa"
        refine rd_ixT (v := .str w) ?_ hq rfl
        walk_at "rd_Fa"
        refine rd_len_str (str_small (by rw [len_tl]; exact hl)) ?_
        walk_at "rd_Fa"
        refine rd_ixT (v := .str w) ?_ hq rfl
        walk_at "rd_Fa"
        refine ⟨w, rfl, fun D hD => lc_fun plain_str hD (by rw [sizeLine_eq]; omega) (fun _ => rfl) (fun i => .int (((tl w)[i]?.getD 0 - 97 : Nat) : Nat)) (fun i Ha Qa hi Sa q => ?_) fun Hd Sd ed => ?_⟩
        · walk_at "rd_Fa"
          have hc := hw _ (List.getElem_mem hi)
          rw [List.getElem?_eq_getElem hi] at q ⊢
          refine ⟨rfl, ?_⟩
          walk_at "rd_Fa"
          refine rd_sindexLow hc.1 hc.2 ?_
          exact q _ (Same.refl _)
        · walk_at "rd_Fa"
          refine ⟨D, _, rfl, .inr (SqL.of ed), ?_⟩
          walk_at "rd_Fa"
          rw [List.append_nil, encW_natV]
          have e5 := encS_len oks.1 (by omega)
          refine rd_new (by rw [natV_len, sizeLine_eq]; omega) fun p3 H3 S3 e3 n3 => ?_
          walk_at "rd_Fa"
          refine rd_extend (S3 _ _ (Sd _ _ e)) e3 (by rw [natV_len, natV_len, sizeLine_eq]; show _ + 1 + 1 + _ ≤ _; omega) ?_
          refine ⟨_, _, _, rfl, (B.trans (But.same (Sd.trans S3))).trans (But.at But.refl), Same.mut ((S.trans Sd).trans S3) n1, ?_⟩
          rw [upd_same, natV_app8, ftk]
          rfl
      | pa f l' t =>
        walk_at "rd_Fa"
        refine rd_ixT (v := .str "paste") ?_ hq rfl
        walk_at "rd_Fa"
        refine rd_tyL (SqL.of e) _ ?_
        walk_at "rd_Fa"
        refine rd_append e (by rw [natV_len, sizeLine_eq]; show _ + 1 + 1 < _; omega) ?_
        walk_at "rd_Fa"
        have B2 : But l H1 (upd H' l (.lst (natV (80 :: ss.length :: ((ss.take i).map encS).flatten) ++ [V.int 1]))) := B.trans (But.at But.refl)
        have S2 := Same.mut (o := .lst (natV (80 :: ss.length :: ((ss.take i).map encS).flatten) ++ [V.int 1])) S n1
        have hq2 := sqT_butL hq e (But.at (o := .lst (natV (80 :: ss.length :: ((ss.take i).map encS).flatten) ++ [V.int 1])) But.refl)
        have e2 : upd H' l (.lst (natV (80 :: ss.length :: ((ss.take i).map encS).flatten) ++ [V.int 1])) l = some (.lst (natV (80 :: ss.length :: (((ss.take i).map encS).flatten ++ [1])))) := by
          rw [upd_same, show [V.int 1] = natV [1] from rfl, natV_app8]; rfl
        revert B2 S2 hq2 e2
        generalize upd H' l _ = H2
        intro B2 S2 hq2 e2
        refine rd_slA1b hq2 (by show 3 ≤ 1000; decide) fun p3 H3 S3 hq3 => ?_
        walk_at "rd_Fa"
        have nb : ∀ n ∈ [f, l', t], n ≤ 1000000000000000000 := fun n hn => by
          obtain ⟨h1, h2, h3, h4⟩ := oks.1
          simp only [List.mem_cons, List.not_mem_nil, or_false] at hn
          rcases hn with rfl | rfl | rfl <;> omega
        have fb : ∀ j, ((([f, l', t].take j).map grpN).flatten).length ≤ 27 := fun j => by
          have g9 : ∀ n, n ≤ 1000000000000000000 → (grpN n).length ≤ 9 := fun n hn => grpN_len 9 n (by decide) (Nat.lt_of_le_of_lt hn (by decide))
          have g1 := g9 f (nb f (by simp))
          have g2 := g9 l' (nb l' (by simp))
          have g3 := g9 t (nb t (by simp))
          match j with
          | 0 => simp
          | 1 => simp; omega
          | 2 => simp; omega
          | j + 3 => simp; omega
        refine ⟨⟨_, hq3⟩, for_tup (xs := [.int (f : Nat), .int (l' : Nat), .int (t : Nat)]) (fun j σ H'' => ∃ v3 v4, σ = [some (.ref a), some (.ref l), some (.ref b), v3, v4] ∧ But l H3 H'' ∧ Same H H'' ∧ H'' l = some (.lst (natV (80 :: ss.length :: (((ss.take i).map encS).flatten ++ 1 :: (([f, l', t].take j).map grpN).flatten)))))
          ⟨_, _, rfl, But.refl, S2.trans S3, S3 _ _ e2⟩ (fun j σ H'' _ z => ?_) ?_ ?_⟩
        · obtain ⟨_, _, _, B4, _, _⟩ := z
          exact sqT_butL hq3 (S3 _ _ e2) B4
        · rintro j v σ H4 hv4 ⟨v3, v4, rfl, B4, S4, e4⟩
          have hv5 : ([f, l', t].map fun n : Nat => V.int (n : Nat))[j]? = some v := hv4
          rw [List.getElem?_map] at hv5
          obtain ⟨n, hn, rfl⟩ := Option.map_eq_some_iff.mp hv5
          have fj := fb j
          have g1 := grpN_len 9 n (by decide) (Nat.lt_of_le_of_lt (nb n (List.mem_of_getElem? hn)) (by decide))
          walk_at "rd_Fa"
          refine rd_tyL (SqL.of e4) _ ?_
          walk_at "rd_Fa"
          refine rd_numVals (nb n (List.mem_of_getElem? hn)) fun p5 H5 S5 n5 e5 => ?_
          walk_at "rd_Fa"
          refine rd_extend (S5 _ _ e4) e5 (by rw [natV_len, natV_len, sizeLine_eq]; simp only [List.length_cons, List.length_append]; omega) ?_
          refine ⟨_, _, rfl, (B4.trans (But.same S5)).trans (But.at But.refl), Same.mut (S4.trans S5) n1, ?_⟩
          rw [upd_same, natV_app8, take_sn hn]
          simp
        · rintro σ H4 ⟨v3, v4, rfl, B4, S4, e4⟩
          walk_at "rd_Fa"
          refine ⟨_, _, _, rfl, (B2.trans (But.same S3)).trans B4, S4, ?_⟩
          rw [e4, ftk]
          simp [encS]
    · rintro σ H' ⟨v2, v3, v4, rfl, B, S, e⟩
      rw [hst2.1, List.take_length] at e
      have e : H' l = some (.lst (natV (encV ss))) := e
      have hl := encV_len ok few
      walk_at "rd_Fa"
      refine ⟨l, _, rfl, .inr (SqL.of e), ?_⟩
      walk_at "rd_Fa"
      refine rd_checksum e fun H2 S2 => ?_
      walk_at "rd_Fa"
      rw [← natV_snoc]
      refine rd_new (by rw [natV_len, List.length_append, sizeLine_eq]; show _ + 1 ≤ _; omega) fun p3 H3 S3 e3 n3 => ?_
      walk_at "rd_Fa"
      refine rd_bytesN e3 (encT_255 ok few) ?_
      exact k _ ((S.trans S2).trans S3)
end
section
variable {P : Program} {w : World} {K : PySem.W.Frag} {mg : Str → Option Value} {base : Heap} {CText CPart CEditor CDecoder CTextError CInvalidStep CInvalidOperation CDecodeError CNotationError CTooLong CInvalidPlace CInvalidLetter CContradiction CInvalidCount c_law p_law : Addr}
theorem ok_Decoder_init (T : Txt K mg CText CPart CEditor CDecoder CTextError CInvalidStep CInvalidOperation CDecodeError CNotationError CTooLong CInvalidPlace CInvalidLetter CContradiction CInvalidCount c_law p_law) : KOk P w K mg base CX0 1 CDecoder (sp_Decoder_init CDecoder) := by
  refine T.d_Decoder_init.ok sc_Decoder_init (fun vs H Q E h => ?len) (fun f cdv A outer s H vs Q E hr h => ?_)
  case len => obtain ⟨x, dx, b, rfl, _⟩ := h; rfl
  · obtain ⟨x, dx, b, rfl, hx, k⟩ := h
    refine ⟨_, (pss_cons (ps_fld (pv 0) (pv 1) rfl)
    (pss_cons (ps_fld (pv 0) pe_int rfl)
    (pss_one (ps_fld (pv 0) pe_int rfl)))), ?_⟩
    refine rd_startE (show start N_Decoder_init [.ref x, byV b] = [some (.ref x), some (byV b)] from rfl) ?_
    walk_at "rd_Fa"
    refine rd_edset hx T.cDecoder T.na_Decoder_data (by decide) fun H1 b1 e1 => ?_
    walk_at "rd_Fa"
    refine rd_edset e1 T.cDecoder T.na_Decoder_offset (Nat.lt_of_le_of_lt (putF_len (k := 0) (by decide)) (by decide)) fun H2 b2 e2 => ?_
    walk_at "rd_Fa"
    refine rd_edset e2 T.cDecoder T.na_Decoder_total (Nat.lt_of_le_of_lt (putF_len (k := 1) (putF_len (k := 0) (by decide))) (by decide)) fun H3 b3 e3 => ?_
    walk_at "rd_Fa"
    exact k _ ((b1.trans b2).trans b3) ⟨dx, e3⟩
end
section
variable {P : Program} {w : World} {K : PySem.W.Frag} {mg : Str → Option Value} {base : Heap} {CText CPart CEditor CDecoder CTextError CInvalidStep CInvalidOperation CDecodeError CNotationError CTooLong CInvalidPlace CInvalidLetter CContradiction CInvalidCount c_law p_law : Addr}
theorem okR_Decoder_take (T : Txt K mg CText CPart CEditor CDecoder CTextError CInvalidStep CInvalidOperation CDecodeError CNotationError CTooLong CInvalidPlace CInvalidLetter CContradiction CInvalidCount c_law p_law) : MOk P w K mg base (L2.CX P w) 4 CDecoder "take" (sp_Decoder_takeR CDecodeError CDecoder) := by
  refine T.d_Decoder_take.okX sc_Decoder_take (fun vs H Q E h => ?len) (fun f cdv A outer s H vs Q E hr h => ?_)
  case len => obtain ⟨x, b, o, t, lo, hi, rfl, _⟩ := h; rfl
  · obtain ⟨x, b, o, t, lo, hi, rfl, ⟨dx, ex⟩, h8, hob, k⟩ := h
    refine ⟨_, (pss_cons (ps_if (PW.pt (pw_or (pt_cmpR (eqK (K := K) rfl hr.units) (pe_fldK (K := K) rfl (pv 0) (by rfl)) (pe_callB (lenK (K := K) rfl) rfl T.n_len (by decide +kernel) (pa_cons (pe_fldK (K := K) rfl (pv 0) (by rfl)) pa_nil)) (nomark _)) (pw_or1 (pt_not (pt_chain op_le op_le (pv 1) (pe_itemB (pe_fldK (K := K) rfl (pv 0) (by rfl)) (pe_fldK (K := K) rfl (pv 0) (by rfl)) (fun _ _ => rfl)) (pv 2)))))) (pss_one (ps_rzI T.x_DecodeError (ok_DecodeError_init (K := K) T) (hr.mono (by decide)) (takes_of rfl rfl rfl rfl) (pa_cons (pe_fldK (K := K) rfl (pv 0) (by rfl)) pa_nil)))
    pss_nil)
    (pss_cons (ps_fldaug (pv 0) pe_int in_add)
    (pss_one (ps_ret (pe_itemB (pe_fldK (K := K) rfl (pv 0) (by rfl)) (pe_op op_sub (pe_fldK (K := K) rfl (pv 0) (by rfl)) pe_int) (fun _ _ => rfl)))))), ?_⟩
    refine rd_startE (show start N_Decoder_take [.ref x, .int (lo : Nat), .int (hi : Nat)] = [some (.ref x), some (.int (lo : Nat)), some (.int (hi : Nat))] from rfl) ?_
    walk_at "rd_Fa"
    refine rd_fld_at ex T.cDecoder T.na_Decoder_offset dcF_lookO ?_
    walk_at "rd_Fa"
    refine rd_fld_at ex T.cDecoder T.na_Decoder_data dcF_lookD ?_
    walk_at "rd_Fa"
    refine rd_lenBy h8 ?_
    walk_at "rd_Fa"
    have h81 := h8.1
    by_cases ho : o = b.length
    · rw [decide_eq_true (by omega : ((o : Nat) : Int) = (b.length : Nat))]
      have hr : tkD b o lo hi = .er o := by unfold tkD; rw [List.getElem?_eq_none (by omega)]
      rw [hr] at k
      walk_at "rd_Fa"
      refine rd_rzI ?_
      walk_at "rd_Fa"
      refine rd_fld_at ex T.cDecoder T.na_Decoder_offset dcF_lookO ?_
      walk_at "rd_Fa"
      exact rd_mkOff (by omega) fun d H' S e => k d H' (But.same S) e
    · rw [decide_eq_false (by omega : ¬ ((o : Nat) : Int) = (b.length : Nat))]
      obtain ⟨v, hv⟩ : ∃ v, b[o]? = some v := ⟨_, List.getElem?_eq_getElem (by omega)⟩
      have hr : tkD b o lo hi = if lo ≤ v ∧ v ≤ hi then .ok v (o + 1) else .er o := by unfold tkD; rw [hv]
      rw [hr] at k
      walk_at "rd_Fa"
      refine rd_fld_at ex T.cDecoder T.na_Decoder_data dcF_lookD ?_
      walk_at "rd_Fa"
      refine rd_fld_at ex T.cDecoder T.na_Decoder_offset dcF_lookO ?_
      refine rd_itB (v := v) h8 (by rw [Int.toNat_natCast]; exact hv) (by omega) ?_
      walk_at "rd_Fa"
      have bad : ¬ (lo ≤ v ∧ v ≤ hi) → rMkO CDecodeError (sp_xi1 CDecodeError "offset") E [.int (o : Nat)] H := fun hn => by
        rw [if_neg hn] at k
        exact rd_mkOff (by omega) fun d H' S e => k d H' (But.same S) e
      refine rd_ite (fun h1 => ?_) (fun h1 => ?_)
      · walk_at "rd_Fa"
        by_cases h2 : v ≤ hi
        · rw [if_pos ⟨by omega, h2⟩] at k
          walk_at "rd_Fa"
          refine rd_augO T.cDecoder T.na_Decoder_offset rfl ⟨dx, ex⟩ ?_
          walk_at "rd_Fa"
          refine rd_augO1 (n := 1) ⟨dx, ex⟩ rfl fun H1 B1 D1 => ?_
          obtain ⟨dx1, ex1⟩ := id D1
          walk_at "rd_Fa"
          refine rd_fld_at ex1 T.cDecoder T.na_Decoder_data dcF_lookD ?_
          walk_at "rd_Fa"
          refine rd_fld_at ex1 T.cDecoder T.na_Decoder_offset dcF_lookO ?_
          walk_at "rd_Fa"
          refine rd_itB (v := v) h8 (by rw [show (((o + 1 : Nat) : Int) - 1).toNat = o by omega]; exact hv) (by omega) ?_
          exact k H1 B1 D1
        · walk_at "rd_Fa"
          refine rd_rzI ?_
          walk_at "rd_Fa"
          refine rd_fld_at ex T.cDecoder T.na_Decoder_offset dcF_lookO ?_
          walk_at "rd_Fa"
          exact bad fun z => h2 z.2
      · walk_at "rd_Fa"
        refine rd_rzI ?_
        walk_at "rd_Fa"
        refine rd_fld_at ex T.cDecoder T.na_Decoder_offset dcF_lookO ?_
        walk_at "rd_Fa"
        exact bad fun z => h1 (by omega)
end
section
variable {P : Program} {w : World} {K : PySem.W.Frag} {mg : Str → Option Value} {base : Heap} {CText CPart CEditor CDecoder CTextError CInvalidStep CInvalidOperation CDecodeError CNotationError CTooLong CInvalidPlace CInvalidLetter CContradiction CInvalidCount c_law p_law : Addr}
theorem okR_Decoder_take_number (T : Txt K mg CText CPart CEditor CDecoder CTextError CInvalidStep CInvalidOperation CDecodeError CNotationError CTooLong CInvalidPlace CInvalidLetter CContradiction CInvalidCount c_law p_law) : MOk P w K mg base (L2.CX P w) 5 CDecoder "take_number" (sp_Decoder_take_numberR CDecodeError CDecoder) := by
  refine T.d_Decoder_take_number.okX sc_Decoder_take_number (fun vs H Q E h => ?len) (fun f cdv A outer s H vs Q E hr h => ?_)
  case len => obtain ⟨x, b, o, t, lo, hi, rfl, _⟩ := h; rfl
  · obtain ⟨x, b, o, t, lo, hi, rfl, D0, h8, hob, k⟩ := h
    obtain ⟨t_BYTE, h_BYTE⟩ := T.k_BYTE; obtain ⟨t_GROUP, h_GROUP⟩ := T.k_GROUP; refine ⟨_, (pss_cons (ps_asg (pe_tup (pa_cons (pe_fldK (K := K) rfl (pv 0) (by rfl)) (pa_cons pe_int (pa_cons pe_int (pa_cons (pe_glob (v := .int 128) rfl h_GROUP ⟨_, rfl⟩) pa_nil))))) (pg_tupK (K := K) (n := 4) rfl rfl (pgs_cons (pg_name (i := 3) sc_Decoder_take_number.nd rfl (Or.inl rfl)) (pgs_cons (pg_name (i := 4) sc_Decoder_take_number.nd rfl (Or.inl rfl)) (pgs_cons (pg_name (i := 5) sc_Decoder_take_number.nd rfl (Or.inl rfl)) (pgs_cons (pg_name (i := 6) sc_Decoder_take_number.nd rfl (Or.inl rfl)) pgs_nil))))))
    (pss_cons (ps_while (passes_of rfl) (pt_cmpR op_ge (pv 6) (pe_glob (v := .int 128) rfl h_GROUP ⟨_, rfl⟩) (nomark _)) (pss_cons (ps_set (i := 6) sc_Decoder_take_number.nd rfl (Or.inl rfl) (pe_m (pv 0) T.cDecoder (okR_Decoder_take (K := K) T) (hr.mono (by decide)) (passX (takes_of rfl rfl rfl rfl)) (pa_cons pe_int (pa_cons (pe_op op_sub (pe_glob (v := .int 256) rfl h_BYTE ⟨_, rfl⟩) pe_int) pa_nil))))
    (pss_cons (ps_if (PW.pt (pw_and (pt_cmpR (eqK (K := K) rfl hr.units) (pv 6) pe_int (nomark _)) (pw_and1 (pt_cmpR op_gt (pv 5) pe_int (nomark _))))) (pss_one (ps_rzI T.x_DecodeError (ok_DecodeError_init (K := K) T) (hr.mono (by decide)) (takes_of rfl rfl rfl rfl) (pa_cons (pe_op op_sub (pe_fldK (K := K) rfl (pv 0) (by rfl)) pe_int) pa_nil)))
    pss_nil)
    (pss_cons (ps_aug (i := 4) sc_Decoder_take_number.nd rfl (Or.inl rfl) (pe_op op_mul (pe_op op_mod (pe_callTy cInt rfl T.n_int (by decide +kernel) (pa_cons (pv 6) pa_nil)) (pe_glob (v := .int 128) rfl h_GROUP ⟨_, rfl⟩)) (pv 5)) ip_add)
    (pss_one (ps_aug (i := 5) sc_Decoder_take_number.nd rfl (Or.inl rfl) (pe_glob (v := .int 128) rfl h_GROUP ⟨_, rfl⟩) ip_mul))))))
    (pss_cons (ps_if (pt_not (pt_chain op_le op_le (pv 1) (pv 4) (pv 2))) (pss_one (ps_rzI T.x_DecodeError (ok_DecodeError_init (K := K) T) (hr.mono (by decide)) (takes_of rfl rfl rfl rfl) (pa_cons (pv 3) pa_nil)))
    pss_nil)
    (pss_one (ps_ret (pv 4)))))), ?_⟩
    refine rd_startE (show start N_Decoder_take_number [.ref x, .int (lo : Nat), .int ((hi : Nat) - 1)] = [some (.ref x), some (.int (lo : Nat)), some (.int ((hi : Nat) - 1)), none, none, none, none] from rfl) ?_
    have h81 := h8.1
    obtain ⟨dx, ex⟩ := id D0
    walk_at "rd_Fa"
    refine rd_fld_at ex T.cDecoder T.na_Decoder_offset dcF_lookO ?_
    walk_at "rd_Fa"
    intro p1 H1 S1 e1 _
    refine rd_gtup (SqT.of e1) rfl ?_
    walk_at "rd_Fa"
    refine rd_while (fun m σ H' => ∃ (o' acc fac byte : Nat), σ = [some (.ref x), some (.int (lo : Nat)), some (.int ((hi : Nat) - 1)), some (.int (o : Nat)), some (.int (acc : Nat)), some (.int (fac : Nat)), some (.int (byte : Nat))] ∧ But x H H' ∧ DcAt CDecoder H' x b o' t ∧ o' ≤ b.length ∧ m = b.length - o' ∧
      ((128 ≤ byte ∧ nmL b (b.length - o) o 0 1 = nmL b (b.length - o') o' acc fac) ∨ (byte < 128 ∧ nmL b (b.length - o) o 0 1 = .ok acc o'))) ⟨b.length - o, o, 0, 1, 128, rfl, But.same S1, D0.same S1, hob, rfl, .inl ⟨by decide, rfl⟩⟩ ?_
    rintro m σ H2 ⟨o', acc, fac, byte, rfl, B2, D2, ho2, rfl, hR⟩
    walk_at "rd_Fa"
    refine rd_ite (fun h3 => ⟨_, fun σ' H'' z => z, ?_⟩) (fun h3 => ?_)
    · have hR := (hR.resolve_right fun z => by omega).2
      walk_at "rd_Fa"
      refine ⟨D2.insM, ?_⟩
      walk_at "rd_Fa"
      refine rd_take (lo := 0) (hi := 255) D2 h8 ho2 rfl (by decide) ?_
      by_cases ho : o' = b.length
      · rw [tk_none (by omega)]
        have hk : nmD b o lo hi = .er o' := by unfold nmD; rw [hR, nmL_end ho]; rfl
        rw [hk] at k
        exact fun d H3 B3 e3 => k d H3 (B2.trans B3) e3
      · obtain ⟨v, hv⟩ : ∃ v, b[o']? = some v := ⟨_, List.getElem?_eq_getElem (by omega)⟩
        rw [nmL_step hv] at hR
        rw [tk_byte h8 hv]
        intro H3 B3 D3
        obtain ⟨dx3, ex3⟩ := id D3
        have hl := (List.getElem?_eq_some_iff.mp hv).1
        have hv8 := h8.2 _ (List.mem_of_getElem? hv)
        walk_at "rdS_Fa"
        refine rd_ifAndJ8 (fun Hc => Hc = H3 ∧ ¬ (v = 0 ∧ 1 < fac)) ?_ fun hb => ?_
        · rintro Hc ⟨rfl, hn⟩
          rw [if_neg hn] at hR
          walk_at "rd_Fa"
          refine rd_I (by decide) ?_
          walk_at "rd_Fa"
          refine rd_I (.inl ⟨by omega, by omega⟩) ?_
          walk_at "rd_Fa"
          refine rd_I (.inr ⟨by decide, by decide⟩) ?_
          refine ⟨b.length - (o' + 1), by omega, o' + 1, acc + v % 128 * fac, fac * 128, v, ?_, B2.trans B3, D3, by omega, rfl, ?_⟩
          · rw [Int.natCast_add, Int.natCast_mul, Int.natCast_emod, Int.natCast_mul]; rfl
          · by_cases hv1 : v < 128
            · rw [if_pos hv1] at hR
              exact .inr ⟨hv1, hR⟩
            · rw [if_neg hv1] at hR
              exact .inl ⟨by omega, hR⟩
        · walk_at "rd_Fa"
          refine rd_ite (fun h4 => ?_) (fun h4 => hb _ ⟨rfl, fun z => h4 (by omega)⟩)
          walk_at "rd_Fa"
          refine rd_ite (fun h5 => ?_) (fun h5 => hb _ ⟨rfl, fun z => h5 (by omega)⟩)
          rw [if_pos ⟨by omega, by omega⟩] at hR
          have hk : nmD b o lo hi = .er o' := by unfold nmD; rw [hR]; rfl
          rw [hk] at k
          walk_at "rd_Fa"
          refine rd_rzI ?_
          walk_at "rd_Fa"
          refine rd_fld_at ex3 T.cDecoder T.na_Decoder_offset dcF_lookO ?_
          walk_at "rd_Fa"
          rw [show ((o' + 1 : Nat) : Int) - 1 = ((o' : Nat) : Int) by omega]
          exact rd_mkOff (by omega) fun d H' S e => k d H' ((B2.trans B3).trans (But.same S)) e
    · have hR := (hR.resolve_left fun z => by omega).2
      have hk : nmD b o lo hi = if lo ≤ acc ∧ acc < hi then .ok acc o' else .er o := by unfold nmD; rw [hR, DR.bind_ok]
      rw [hk] at k
      walk_at "rd_Fa"
      have bad : ¬ (lo ≤ acc ∧ acc < hi) → rMkO CDecodeError (sp_xi1 CDecodeError "offset") E [.int (o : Nat)] H2 := fun hn => by
        rw [if_neg hn] at k
        exact rd_mkOff (by omega) fun d H' S e => k d H' (B2.trans (But.same S)) e
      refine rd_ite (fun h1 => ?_) (fun h1 => ?_)
      · walk_at "rd_Fa"
        by_cases h2 : acc < hi
        · rw [if_pos ⟨by omega, h2⟩] at k
          walk_at "rd_Fa"
          exact k H2 B2 D2
        · walk_at "rd_Fa"
          refine rd_rzI ?_
          walk_at "rd_Fa"
          exact bad fun z => h2 z.2
      · walk_at "rd_Fa"
        refine rd_rzI ?_
        walk_at "rd_Fa"
        exact bad fun z => h1 (by omega)
end
section
variable {P : Program} {w : World} {K : PySem.W.Frag} {mg : Str → Option Value} {base : Heap} {CText CPart CEditor CDecoder CTextError CInvalidStep CInvalidOperation CDecodeError CNotationError CTooLong CInvalidPlace CInvalidLetter CContradiction CInvalidCount c_law p_law : Addr}
theorem okR_Decoder_take_step (T : Txt K mg CText CPart CEditor CDecoder CTextError CInvalidStep CInvalidOperation CDecodeError CNotationError CTooLong CInvalidPlace CInvalidLetter CContradiction CInvalidCount c_law p_law) : MOk P w K mg base (L2.CX P w) 6 CDecoder "take_step" (sp_Decoder_take_stepR K CDecodeError CDecoder) := by
  refine T.d_Decoder_take_step.okX sc_Decoder_take_step (fun vs H Q E h => ?len) (fun f cdv A outer s H vs Q E hr h => ?_)
  case len => obtain ⟨x, b, o, t, rfl, _⟩ := h; rfl
  · obtain ⟨x, b, o, t, rfl, D0, h8, hob, ht, k⟩ := h
    obtain ⟨t_LETTERS, h_LETTERS⟩ := T.k_LETTERS; obtain ⟨t_MAX_SIZE_texts, h_MAX_SIZE_texts⟩ := T.k_MAX_SIZE_texts; obtain ⟨t_MAX_TIMES, h_MAX_TIMES⟩ := T.k_MAX_TIMES; obtain ⟨t_MAX_WORD, h_MAX_WORD⟩ := T.k_MAX_WORD; refine ⟨_, (pss_cons (ps_set (i := 1) sc_Decoder_take_step.nd rfl (Or.inl rfl) (pe_fldK (K := K) rfl (pv 0) (by rfl)))
    (pss_cons (ps_if (pt_cmpR (eqK (K := K) rfl hr.units) (pe_m (pv 0) T.cDecoder (okR_Decoder_take (K := K) T) (hr.mono (by decide)) (passX (takes_of rfl rfl rfl rfl)) (pa_cons pe_int (pa_cons pe_int pa_nil))) pe_int (nomark _)) (pss_cons (ps_set (i := 2) sc_Decoder_take_step.nd rfl (Or.inl rfl) (pe_m (pv 0) T.cDecoder (okR_Decoder_take (K := K) T) (hr.mono (by decide)) (passX (takes_of rfl rfl rfl rfl)) (pa_cons pe_int (pa_cons (pe_glob (v := .int 20) rfl h_MAX_WORD ⟨_, rfl⟩) pa_nil))))
    (pss_cons (ps_set (i := 3) sc_Decoder_take_step.nd rfl (Or.inl rfl) (pe_tup (pa_cons pe_str (pa_cons (pe_joinK (K := K) rfl pe_str (pe_lcR (own := [("turn", 4)]) (takes_of rfl rfl rfl rfl) rfl rfl rfl sc_Decoder_take_step.nd (pi_range1 rfl T.n_range (pa_cons (pv 2) pa_nil)) (blkOk_by (own := [("turn", 4)]) (N := N_Decoder_take_step) (sc := (defScope s_Decoder_take_step)) (by first | decide +kernel | rfl)) (fun _ _ _ _ _ => ⟨(pg_name (i := 4) sc_Decoder_take_step.nd rfl (Or.inl rfl)), pts_nil, (pe_ix (ixK (K := K) rfl) (pe_glob (v := .str "abcdefghijklmnopqrstuvwxyz") rfl h_LETTERS ⟨_, rfl⟩) (pe_m (pv 0) T.cDecoder (okR_Decoder_take (K := K) T) (hr.mono (by decide)) passB (pa_cons pe_int (pa_cons (pe_op op_sub (pe_callB (lenK (K := K) rfl) rfl T.n_len (by decide +kernel) (pa_cons (pe_glob (v := .str "abcdefghijklmnopqrstuvwxyz") rfl h_LETTERS ⟨_, rfl⟩) pa_nil)) pe_int) pa_nil))) (fun _ _ => rfl))⟩))) pa_nil))))
    (pss_one (ps_fldaug (pv 0) (pv 2) in_add))))
    (pss_cons (ps_set (i := 5) sc_Decoder_take_step.nd rfl (Or.inl rfl) (pe_m (pv 0) T.cDecoder (okR_Decoder_take_number (K := K) T) (hr.mono (by decide)) (passX (takes_of rfl rfl rfl rfl)) (pa_cons pe_int (pa_cons (pe_op op_sub (pe_fldK (K := K) rfl (pv 0) (by rfl)) pe_int) pa_nil))))
    (pss_cons (ps_set (i := 6) sc_Decoder_take_step.nd rfl (Or.inl rfl) (pe_m (pv 0) T.cDecoder (okR_Decoder_take_number (K := K) T) (hr.mono (by decide)) (passX (takes_of rfl rfl rfl rfl)) (pa_cons (pv 5) (pa_cons (pe_op op_sub (pe_fldK (K := K) rfl (pv 0) (by rfl)) pe_int) pa_nil))))
    (pss_cons (ps_set (i := 7) sc_Decoder_take_step.nd rfl (Or.inl rfl) (pe_m (pv 0) T.cDecoder (okR_Decoder_take_number (K := K) T) (hr.mono (by decide)) (passX (takes_of rfl rfl rfl rfl)) (pa_cons pe_int (pa_cons (pe_glob (v := .int 1000000000) rfl h_MAX_TIMES ⟨_, rfl⟩) pa_nil))))
    (pss_cons (ps_set (i := 3) sc_Decoder_take_step.nd rfl (Or.inl rfl) (pe_tup (pa_cons pe_str (pa_cons (pv 5) (pa_cons (pv 6) (pa_cons (pv 7) pa_nil))))))
    (pss_one (ps_fldaug (pv 0) (pe_op op_mulW (pe_op (addK (K := K) rfl) (pe_op op_sub (pv 6) (pv 5)) pe_int) (pv 7)) in_add)))))))
    (pss_cons (ps_if (pt_cmpR op_gt (pe_fldK (K := K) rfl (pv 0) (by rfl)) (pe_glob (v := .int 1000000000000000000) rfl h_MAX_SIZE_texts ⟨_, rfl⟩) (nomark _)) (pss_one (ps_rzI T.x_DecodeError (ok_DecodeError_init (K := K) T) (hr.mono (by decide)) (takes_of rfl rfl rfl rfl) (pa_cons (pv 1) pa_nil)))
    pss_nil)
    (pss_one (ps_ret (pv 3)))))), ?_⟩
    refine rd_startE (show start N_Decoder_take_step [.ref x] = [some (.ref x), none, none, none, none, none, none, none] from rfl) ?_
    have h81 := h8.1
    obtain ⟨dx, ex⟩ := id D0
    walk_at "rd_Fa"
    refine rd_fld_at ex T.cDecoder T.na_Decoder_offset dcF_lookO ?_
    walk_at "rdS_Fa"
    refine rd_ifSJ8 (fun σ' Hc => ∃ v2 v4 v5 v6 v7 s o' p, σ' = [some (.ref x), some (.int (o : Nat)), v2, some (.ref p), v4, v5, v6, v7] ∧ But x H Hc ∧ DcAt CDecoder Hc x b o' (t + len1 s) ∧ StepAt K Hc (.ref p) s ∧ spD b o t = .ok s o') ?_ fun nx' hnx => ?_
    · rintro σ' Hc ⟨v2, v4, v5, v6, v7, s, o', p, rfl, Bc, Dc, sa, hs⟩
      have hk : stpD b o t = if 1000000000000000000 < t + len1 s then .er o else .ok s o' := by unfold stpD; rw [hs]; rfl
      rw [hk] at k
      obtain ⟨dxc, exc⟩ := id Dc
      walk_at "rd_Fa"
      refine rd_fld_at exc T.cDecoder T.na_Decoder_total dcF_lookT ?_
      walk_at "rd_Fa"
      refine rd_ite (fun h1 => ?_) (fun h1 => ?_)
      · rw [if_pos (by omega)] at k
        walk_at "rd_Fa"
        refine rd_rzI ?_
        walk_at "rd_Fa"
        exact rd_mkOff (by omega) fun d H' S e => k d H' (Bc.trans (But.same S)) e
      · rw [if_neg (by omega)] at k
        walk_at "rd_Fa"
        exact k Hc Bc _ Dc sa
    · rw [stpD_eq] at k
      walk_at "rd_Fa"
      refine ⟨D0.insM, ?_⟩
      walk_at "rd_Fa"
      refine rd_take (lo := 0) (hi := 1) D0 h8 hob rfl rfl (k.step fun v o1 H1 hr B1 k1 D1 => ?_)
      obtain ⟨_, _, hv1, rfl, ho1⟩ := tkD_ok hr
      walk_at "rd_Fa"
      refine rd_ite (fun h1 => ?_) (fun h1 => ?_)
      · have h1 : v = 0 := by omega
        subst h1
        rw [if_pos rfl] at k1
        unfold wrD at k1
        rw [DR.assoc] at k1
        walk_at "rd_Fa"
        refine ⟨D1.insM, ?_⟩
        walk_at "rd_Fa"
        refine rd_take (lo := 1) (hi := 20) D1 h8 ho1 rfl rfl (k1.step fun n o2 H2 hr2 B2 k2 D2 => ?_)
        obtain ⟨_, hn1, hn2, rfl, ho2⟩ := tkD_ok hr2
        rw [DR.assoc] at k2
        walk_at "rd_Fa"
        refine ⟨_, rfl, by omega, by omega, fun D hD => lc_sti (n := n) (fun i H' => But x H2 H' ∧ DcAt CDecoder H' x b (o + 1 + 1 + i) t ∧ o + 1 + 1 + i ≤ b.length ∧ ltD b n (o + 1 + 1) [] = ltD b (n - i) (o + 1 + 1 + i) (letB b (o + 1 + 1) i)) (fun i H' _ => by rw [Int.toNat_natCast]; exact plain_rng) ?_ (by rw [sizeLine_eq]; omega) (fun _ => rfl) (fun i => .str ⟨#[97 + b[o + 1 + 1 + i]?.getD 0]⟩) ?_ ?_ ?_⟩
        · have nD : x ≠ D := fun z => by obtain ⟨dx2, e2⟩ := D2; rw [z, hD] at e2; cases e2
          exact ⟨But.mutN But.refl hD, D2.upd nD, ho2, rfl⟩
        · rintro i H' ys zs ⟨B, Dc, h1, h2⟩ _
          have nD : x ≠ D := fun z => by obtain ⟨dx2, e2⟩ := D2; rw [z, hD] at e2; cases e2
          exact ⟨B.mutN hD, Dc.upd nD, h1, h2⟩
        · rintro i H' ys Q1 hi ⟨B, Dc, ho3, hl⟩ eD q
          have l26 : (Str.ofString "abcdefghijklmnopqrstuvwxyz").length = 26 := by decide +kernel
          have nD : x ≠ D := fun z => by obtain ⟨dx2, e2⟩ := D2; rw [z, hD] at e2; cases e2
          walk_at "rd_Fa"
          refine ⟨Dc.insM, ?_⟩
          walk_at "rd_Fa"
          refine rd_len_str (by rw [l26, sizeLine_eq]; decide) ?_
          rw [l26]
          walk_at "rd_Fa"
          obtain ⟨m, hm⟩ : ∃ m, n - i = m + 1 := ⟨n - i - 1, by omega⟩
          rw [hm] at hl
          refine rd_take (lo := 0) (hi := 25) Dc h8 ho3 rfl (by decide) ?_
          cases hr3 : tkD b (o + 1 + 1 + i) 0 25 with
          | er q3 =>
            rw [hl, ltD_bad hr3] at k2
            exact fun d H3 B3 e3 => k2 d H3 (B.trans B3) e3
          | ok v o3 =>
            obtain ⟨hv0, _, hv2, rfl, ho4⟩ := tkD_ok hr3
            intro H3 B3 D3
            refine rd_ixSn (by rw [l26, sizeLine_eq]; decide) (low_at8 hv2) ?_
            have hq := q H3 ⟨B.trans B3, D3, ho4, by rw [hl, ltD_step hr3, letB_snoc, hv0, show n - (i + 1) = m by omega]; rfl⟩ (B3 _ _ (fun z => nD z.symm) eD)
            rw [hv0] at hq
            exact hq
        · rintro H3 ⟨B3, D3, ho3, hl⟩ e3
          rw [Nat.sub_self] at hl
          rw [hl] at k2
          have hl : ltD b n (o + 1 + 1) [] = .ok (letB b (o + 1 + 1) n) (o + 1 + 1 + n) := hl
          rw [letB_sgV] at e3
          have ll : (letB b (o + 1 + 1) n).length = n := by unfold letB; rw [List.length_map, List.length_range]
          refine rd_joinS e3 (by omega) ?_
          walk_at "rd_Fa"
          intro p4 H4 S4 e4 _
          walk_at "rd_Fa"
          refine rd_augT T.cDecoder T.na_Decoder_total rfl (D3.same S4) ?_
          walk_at "rd_Fa"
          refine rd_augT1 (n := n) (D3.same S4) rfl fun H5 B5 D5 => ?_
          refine hnx _ _ ⟨_, _, _, _, _, .wr (mkS (letB b (o + 1 + 1) n)), o + 1 + 1 + n, p4, rfl, (((B1.trans B2).trans B3).trans (But.same S4)).trans B5, ?_, ?_, ?_⟩
          · rw [show len1 (Stp.wr (mkS (letB b (o + 1 + 1) n))) = (mkS (letB b (o + 1 + 1) n)).length from rfl, mkS_len, ll]
            exact D5
          · obtain ⟨dx3, ex3⟩ := D3.same S4
            exact StepAt.wrN (B5 _ _ (fun z => by rw [← z, e4] at ex3; cases ex3) e4)
          · unfold spD
            rw [hr, DR.bind_ok, if_pos rfl]
            unfold wrD
            rw [hr2, DR.bind_ok, hl, DR.bind_ok]
      · have hv : v = 1 := by omega
        subst hv
        rw [if_neg (by decide)] at k1
        unfold paD at k1
        rw [DR.assoc] at k1
        obtain ⟨dx1, ex1⟩ := id D1
        walk_at "rd_Fa"
        refine ⟨D1.insM, ?_⟩
        walk_at "rd_Fa"
        refine rd_fld_at ex1 T.cDecoder T.na_Decoder_total dcF_lookT ?_
        walk_at "rd_Fa"
        refine rd_takeN (lo := 0) (hi := t) D1 h8 ho1 rfl rfl (k1.step fun f o2 H2 hr2 B2 k2 D2 => ?_)
        have a2 := nmD_ok hr2
        rw [DR.assoc] at k2
        obtain ⟨dx2, ex2⟩ := id D2
        walk_at "rd_Fa"
        refine ⟨D2.insM, ?_⟩
        walk_at "rd_Fa"
        refine rd_fld_at ex2 T.cDecoder T.na_Decoder_total dcF_lookT ?_
        walk_at "rd_Fa"
        refine rd_takeN (lo := f) (hi := t) D2 h8 a2.2.2.2 rfl rfl (k2.step fun l o3 H3 hr3 B3 k3 D3 => ?_)
        have a3 := nmD_ok hr3
        rw [DR.assoc] at k3
        obtain ⟨dx3, ex3⟩ := id D3
        walk_at "rd_Fa"
        refine ⟨D3.insM, ?_⟩
        walk_at "rd_Fa"
        refine rd_takeN (lo := 1) (hi := 1000000001) D3 h8 a3.2.2.2 rfl (by decide) (k3.step fun m o4 H4 hr4 B4 k4 D4 => ?_)
        have a4 := nmD_ok hr4
        walk_at "rd_Fa"
        intro p5 H5 S5 e5 _
        walk_at "rd_Fa"
        refine rd_augT T.cDecoder T.na_Decoder_total rfl (D4.same S5) ?_
        walk_at "rd_Fa"
        refine rd_mulW (n := l - f + 1) (m := m) (by omega) rfl (by omega) (by omega) ?_
        refine rd_augT1 (n := (l - f + 1) * m) (D4.same S5) rfl fun H6 B6 D6 => ?_
        refine hnx _ _ ⟨_, _, _, _, _, .pa f l m, o4, p5, rfl, (((B1.trans B2).trans (B3.trans B4)).trans (But.same S5)).trans B6, D6, ?_, ?_⟩
        · obtain ⟨dx5, ex5⟩ := D4.same S5
          exact StepAt.paN (B6 _ _ (fun z => by rw [← z, e5] at ex5; cases ex5) e5)
        · unfold spD
          rw [hr, DR.bind_ok, if_neg (by decide)]
          unfold paD
          rw [hr2, DR.bind_ok, hr3, DR.bind_ok, hr4, DR.bind_ok]
end
section
variable {P : Program} {w : World} {K : PySem.W.Frag} {mg : Str → Option Value} {base : Heap} {CText CPart CEditor CDecoder CTextError CInvalidStep CInvalidOperation CDecodeError CNotationError CTooLong CInvalidPlace CInvalidLetter CContradiction CInvalidCount c_law p_law : Addr}
theorem okR_Decoder_finish (T : Txt K mg CText CPart CEditor CDecoder CTextError CInvalidStep CInvalidOperation CDecodeError CNotationError CTooLong CInvalidPlace CInvalidLetter CContradiction CInvalidCount c_law p_law) : MOk P w K mg base (L2.CX P w) 5 CDecoder "finish" (sp_Decoder_finishR CDecodeError CDecoder) := by
  refine T.d_Decoder_finish.okX sc_Decoder_finish (fun vs H Q E h => ?len) (fun f cdv A outer s H vs Q E hr h => ?_)
  case len => obtain ⟨x, b, o, t, rfl, _⟩ := h; rfl
  · obtain ⟨x, b, o, t, rfl, D0, h8, hob, k⟩ := h
    refine ⟨_, (pss_cons (ps_set (i := 1) sc_Decoder_finish.nd rfl (Or.inl rfl) (pe_g (ok_checksum_of (K := K) T) (hr.mono (by decide)) pass0 (pa_cons (pe_callTy (listB rfl) rfl T.n_list (by decide +kernel) (pa_cons (pe_slice sl_byt (pe_fldK (K := K) rfl (pv 0) (by rfl)) po_none (po_some (pe_fldK (K := K) rfl (pv 0) (by rfl)))) pa_nil)) pa_nil)))
    (pss_cons (ps_expr (pe_m (pv 0) T.cDecoder (okR_Decoder_take (K := K) T) (hr.mono (by decide)) (passX (takes_of rfl rfl rfl rfl)) (pa_cons (pv 1) (pa_cons (pv 1) pa_nil))))
    (pss_one (ps_if (pt_cmpR op_lt (pe_fldK (K := K) rfl (pv 0) (by rfl)) (pe_callB (lenK (K := K) rfl) rfl T.n_len (by decide +kernel) (pa_cons (pe_fldK (K := K) rfl (pv 0) (by rfl)) pa_nil)) (nomark _)) (pss_one (ps_rzI T.x_DecodeError (ok_DecodeError_init (K := K) T) (hr.mono (by decide)) (takes_of rfl rfl rfl rfl) (pa_cons (pe_fldK (K := K) rfl (pv 0) (by rfl)) pa_nil)))
    pss_nil)))), ?_⟩
    refine rd_startE (show start N_Decoder_finish [.ref x] = [some (.ref x), none] from rfl) ?_
    have h81 := h8.1
    obtain ⟨dx, ex⟩ := id D0
    walk_at "rd_Fa"
    refine rd_fld_at ex T.cDecoder T.na_Decoder_data dcF_lookD ?_
    walk_at "rd_Fa"
    refine rd_fld_at ex T.cDecoder T.na_Decoder_offset dcF_lookO ?_
    walk_at "rd_Fa"
    refine rd_slByTo h8 hob ?_
    walk_at "rd_Fa"
    refine rd_listBy (h8.take o) fun p1 H1 S1 n1 e1 => ?_
    walk_at "rd_Fa"
    refine rd_checksum e1 fun H2 S2 => ?_
    have D2 := (D0.same S1).same S2
    have k2 := k.but (But.same (S1.trans S2))
    walk_at "rd_Fa"
    refine ⟨D2.insM, ?_⟩
    walk_at "rd_Fa"
    refine rd_take D2 h8 hob rfl rfl (k2.step fun v o3 H3 hr B3 k3 D3 => ?_)
    obtain ⟨_, _, _, rfl, ho3⟩ := tkD_ok hr
    obtain ⟨dx3, ex3⟩ := id D3
    walk_at "rd_Fa"
    refine rd_fld_at ex3 T.cDecoder T.na_Decoder_offset dcF_lookO ?_
    walk_at "rd_Fa"
    refine rd_fld_at ex3 T.cDecoder T.na_Decoder_data dcF_lookD ?_
    walk_at "rd_Fa"
    refine rd_lenBy h8 ?_
    walk_at "rd_Fa"
    refine rd_ite (fun h1 => ?_) (fun h1 => ?_)
    · rw [if_pos (by omega)] at k3
      walk_at "rd_Fa"
      refine rd_rzI ?_
      walk_at "rd_Fa"
      refine rd_fld_at ex3 T.cDecoder T.na_Decoder_offset dcF_lookO ?_
      walk_at "rd_Fa"
      exact rd_mkOff (by omega) fun d H' S e => k3 d H' (But.same S) e
    · rw [if_neg (by omega)] at k3
      walk_at "rd_Fa"
      exact k3 H3 But.refl
end
section
variable {P : Program} {w : World} {K : PySem.W.Frag} {mg : Str → Option Value} {base : Heap} {CText CPart CEditor CDecoder CTextError CInvalidStep CInvalidOperation CDecodeError CNotationError CTooLong CInvalidPlace CInvalidLetter CContradiction CInvalidCount c_law p_law : Addr}
theorem okR_decode_text (T : Txt K mg CText CPart CEditor CDecoder CTextError CInvalidStep CInvalidOperation CDecodeError CNotationError CTooLong CInvalidPlace CInvalidLetter CContradiction CInvalidCount c_law p_law) : GOk P w K mg base (L2.CX P w) 7 "decode_text" (sp_decode_textR K CDecodeError CText CPart) := by
  refine T.d_decode_text.okX sc_decode_text (fun vs H Q E h => ?len) (fun f cdv A outer s H vs Q E hr h => ?_)
  case len => obtain ⟨b, rfl, _⟩ := h; rfl
  · obtain ⟨b, rfl, h8, kOk, kEr⟩ := h
    obtain ⟨t_FIRST_BYTE, h_FIRST_BYTE⟩ := T.k_FIRST_BYTE; obtain ⟨t_MAX_STEPS, h_MAX_STEPS⟩ := T.k_MAX_STEPS; refine ⟨_, (pss_cons (ps_set (i := 1) sc_decode_text.nd rfl (Or.inr rfl) (pe_k (ok_Decoder_init (K := K) T) (hr.mono (by decide)) T.g_Decoder pass0 (pa_cons (pv 0) pa_nil)))
    (pss_cons (ps_expr (pe_m (pv 1) T.cDecoder (okR_Decoder_take (K := K) T) (hr.mono (by decide)) (passX (takes_of rfl rfl rfl rfl)) (pa_cons (pe_glob (v := .int 80) rfl h_FIRST_BYTE ⟨_, rfl⟩) (pa_cons (pe_glob (v := .int 80) rfl h_FIRST_BYTE ⟨_, rfl⟩) pa_nil))))
    (pss_cons (ps_setLcR (i := 2) (own := [("turn", 3)]) (takes_of rfl rfl rfl rfl) rfl rfl rfl sc_decode_text.nd rfl rfl (sw_true rfl rfl rfl (by decide +kernel)) (pi_range1 rfl T.n_range (pa_cons (pe_m (pv 1) T.cDecoder (okR_Decoder_take (K := K) T) (hr.mono (by decide)) (passX (takes_of rfl rfl rfl rfl)) (pa_cons pe_int (pa_cons (pe_glob (v := .int 30) rfl h_MAX_STEPS ⟨_, rfl⟩) pa_nil))) pa_nil)) (blkOk_by (own := [("turn", 3)]) (N := N_decode_text) (sc := (defScope s_decode_text)) (by first | decide +kernel | rfl)) (fun _ _ _ _ _ => ⟨(pg_name (i := 3) sc_decode_text.nd rfl (Or.inl rfl)), pts_nil, (pe_m0 (pv 1) T.cDecoder (okR_Decoder_take_step (K := K) T) (hr.mono (by decide)) passB)⟩))
    (pss_cons (ps_expr (pe_m0 (pv 1) T.cDecoder (okR_Decoder_finish (K := K) T) (hr.mono (by decide)) (passX (takes_of rfl rfl rfl rfl))))
    (pss_one (ps_ret (pe_ks (pe_glob (v := .ref CText) rfl T.g_Text rfl) (ok_Text_init (K := K) T) (hr.mono (by decide)) pass0 (pv 2)))))))), ?_⟩
    refine rd_startE (show start N_decode_text [byV b] = [some (byV b), none, none, none] from rfl) ?_
    have h81 := h8.1
    walk_at "rd_Fa"
    refine rd_mkDc fun x H1 S1 nx D1 => ?_
    have k1 : Rd8 CDecodeError H1 x (decD b) E (fun ss o H' => ∀ y H'', Same H' H'' → H y = none → TX K CText CPart H'' y ss → Q (.ref y) H'') := by
      cases e : decD b with
      | ok ss o => exact fun H' B y H'' S ny T => kOk ss o e y H'' ((But.sameN S1 nx B).trans S) ny T
      | er q => exact fun d H' B ed => kEr q e d H' (But.sameN S1 nx B) ed
    unfold decD at k1
    walk_at "rd_Fa"
    refine ⟨D1.insM, ?_⟩
    walk_at "rd_Fa"
    refine rd_take (lo := 80) (hi := 80) D1 h8 (Nat.zero_le _) rfl rfl (k1.step fun v o2 H2 hr2 B2 k2 D2 => ?_)
    obtain ⟨_, _, _, rfl, ho2⟩ := tkD_ok hr2
    walk_at "rd_Fa"
    refine ⟨D2.insM, ?_⟩
    walk_at "rd_Fa"
    refine rd_take (lo := 0) (hi := 30) D2 h8 ho2 rfl rfl (k2.step fun n o3 H3 hr3 B3 k3 D3 => ?_)
    obtain ⟨_, _, hn, rfl, ho3⟩ := tkD_ok hr3
    walk_at "rd_Fa"
    refine ⟨_, rfl, by omega, by omega, fun D hD => lc_stL (n := n) (fun i ys H' => But x H3 H' ∧ ∃ oi acc, DcAt CDecoder H' x b oi (sz acc) ∧ oi ≤ b.length ∧ StepsAt K H' ys acc ∧ okFrom 0 acc ∧ acc.length = i ∧ ssD b n (0 + 1 + 1) 0 [] = ssD b (n - i) oi (sz acc) acc) (fun i ys H' _ => by rw [Int.toNat_natCast]; exact plain_rng) ?_ (by rw [sizeLine_eq]; omega) (fun _ => rfl) ?_ ?_ ?_⟩
    · have nD : x ≠ D := fun z => by obtain ⟨dx, e⟩ := D3; rw [z, hD] at e; cases e
      exact ⟨But.mutN But.refl hD, _, [], D3.upd nD, ho3, StepsAt.nil, trivial, rfl, rfl⟩
    · rintro i ys ws zs H' ⟨B, oi, acc, Dc, h1, h2, h3, h4, h5⟩ eD
      have nD : x ≠ D := fun z => by obtain ⟨dx, e⟩ := D3; rw [z, hD] at e; cases e
      exact ⟨B.mutN hD, oi, acc, Dc.upd nD, h1, h2.updL eD, h3, h4, h5⟩
    · rintro i ys H' Q1 hi ⟨B, oi, acc, Dc, h1, h2, h3, h4, h5⟩ eD q
      have nD : x ≠ D := fun z => by obtain ⟨dx, e⟩ := D3; rw [z, hD] at e; cases e
      obtain ⟨m, hm⟩ : ∃ m, n - i = m + 1 := ⟨n - i - 1, by omega⟩
      rw [hm, ssD_step] at h5
      have kk := k3.but B
      rw [h5, DR.assoc] at kk
      walk_at "rd_Fa"
      refine ⟨Dc.insM, ?_⟩
      walk_at "rd_Fa"
      refine ⟨x, b, oi, sz acc, rfl, Dc, h8, h1, sz_le h3, kk.step fun s o' H'' hr B' k' v Ds sa => ?_⟩
      obtain ⟨a1, a2, a3, a4⟩ := stpD_ok hr
      refine q v H'' ⟨B.trans B', o', acc ++ [s], by rw [sz_snoc]; exact Ds, a4, ?_, ok_snoc h3 a1 a2, by rw [List.length_append, h4]; rfl, ?_⟩ (B' _ _ (fun z => nD z.symm) eD)
      · exact (steps_butI h2 Dc B').append (StepAt.one' sa)
      · rw [h5, hr, DR.bind_ok, sz_snoc, show n - (i + 1) = m by omega]
    · rintro ys H4 ⟨B, oi, acc, Dc, h1, h2, h3, h4, h5⟩ eD
      rw [Nat.sub_self] at h5
      have kk := k3.but B
      rw [h5] at kk
      have kk : Rd8 CDecodeError H4 x ((finD b oi).bind fun _ o4 => DR.ok acc o4) E (fun ss o H' => ∀ y H'', Same H' H'' → H y = none → TX K CText CPart H'' y ss → Q (.ref y) H'') := kk
      walk_at "rd_Fa"
      refine ⟨Dc.insM, ?_⟩
      refine ⟨x, b, oi, sz acc, rfl, Dc, h8, h1, kk.step fun _ o' H5 hr B5 k5 => ?_⟩
      have nD : x ≠ D := fun z => by obtain ⟨dx, e⟩ := D3; rw [z, hD] at e; cases e
      walk_at "rd_Fa"
      refine rd_mkS (.inr (SqL.of (B5 _ _ (fun z => nD z.symm) eD))) (rd_mkText (steps_butI h2 Dc B5) h3 (by omega) fun y H6 t ny S6 T6 e6 => ?_)
      exact k5 H5 But.refl y H6 S6 (same_back (But.sameN S1 nx (((B2.trans B3).trans B).trans B5)) ny) ⟨t, T6, e6⟩
end
section
variable {P : Program} {w : World} {K : PySem.W.Frag} {mg : Str → Option Value} {base : Heap} {CText CPart CEditor CDecoder CTextError CInvalidStep CInvalidOperation CDecodeError CNotationError CTooLong CInvalidPlace CInvalidLetter CContradiction CInvalidCount c_law p_law : Addr}
theorem ok_decode_text (T : Txt K mg CText CPart CEditor CDecoder CTextError CInvalidStep CInvalidOperation CDecodeError CNotationError CTooLong CInvalidPlace CInvalidLetter CContradiction CInvalidCount c_law p_law) : GOk P w K mg base CX0 7 "decode_text" (nox (sp_decode_textR K CDecodeError CText CPart)) := (okR_decode_text T).down
end
local macro_rules | `(tactic| walk_at "zl") => `(tactic| (rw [sizeLine_eq]; first | decide | (simp only [List.length_cons, List.length_nil]; omega) | omega))
local macro_rules | `(tactic| walk_at "sm") => `(tactic| first | exact Same.refl _ | assumption | ((with_reducible refine' Same.trans ?sx ?sy); (case sy => assumption); (case sx => walk_at "sm")))
local macro_rules | `(tactic| walk_at "kp") => `(tactic| first | exact Kp.refl | assumption | ((with_reducible refine' Kp.trans ?kx ?ky); (case ky => assumption); (case kx => walk_at "kp")) | ((with_reducible refine' Kp.trans ?kx (Kp.same ?ky)); (case ky => assumption); (case kx => walk_at "kp")))
local macro_rules | `(tactic| walk_at "tx") => `(tactic| first | assumption | ((with_reducible refine' TX.kp ?tx1 ?tx2); (case tx1 => assumption); (case tx2 => walk_at "kp")))
local macro_rules | `(tactic| walk_at "ts") => `(tactic| first | assumption | ((with_reducible refine' TS'.kp ?tx1 ?tx2); (case tx1 => assumption); (case tx2 => walk_at "kp")) | ((with_reducible refine' ts_nil ?tx1); (case tx1 => assumption)))
local macro_rules | `(tactic| walk_at "sx") => `(tactic| first | assumption | ((with_reducible refine' SX.kp ?tx1 ?tx2); (case tx1 => assumption); (case tx2 => walk_at "kp")) | ((with_reducible refine' TS'.sx ?tx1); (case tx1 => walk_at "ts")))
local macro_rules | `(tactic| walk_at "row") => `(tactic| first | assumption | ((with_reducible refine' RowAt.mono ?tx1 ?tx2); (case tx1 => assumption); (case tx2 => walk_at "sm")))
local macro_rules | `(tactic| walk_at "ls") => `(tactic| first | assumption | ((with_reducible refine' kp_natV ?tx1 ?tx2); (case tx1 => assumption); (case tx2 => walk_at "kp")) | ((with_reducible refine' kp_sgV ?tx1 ?tx2); (case tx1 => assumption); (case tx2 => walk_at "kp")) | ((refine' Same.lk ?tx1 ?tx2); (case tx1 => assumption); (case tx2 => walk_at "sm")))
local macro_rules | `(tactic| walk_at "om") => `(tactic| first | omega | with_reducible assumption)
local macro_rules | `(tactic| walk_at "rd1") => `(tactic| first
  | with_reducible refine rd_cons ?_ | ((with_reducible refine' rd_var ?k1 ?_); (case k1 => rfl)) | with_reducible refine rd_C ?_ | with_reducible refine rd_nil ?_ | with_reducible refine rd_op ?_ | with_reducible refine rd_g ?_
  | ((with_reducible refine' rd_nameE ?k1 ?_); (case k1 => (dsimp only [List.set_cons_zero, List.set_cons_succ]; exact rfl))) | with_reducible refine rd_asg ?_ | with_reducible refine rd_seq ?_ | with_reducible refine rd_andrfl ?_ | with_reducible refine rd_prop ?_ | with_reducible refine rd_cb ?_ | with_reducible refine rd_test ?_ | with_reducible refine rd_bl ?_ | with_reducible refine rd_ifS ?_ | with_reducible refine rd_next ?_
  | with_reducible refine rd_tupN ?_ | with_reducible refine rd_lstN ?_ | with_reducible refine rd_add_int ?_ | with_reducible refine rd_sub ?_ | with_reducible refine rd_tB ?_ | with_reducible refine rd_not ?_ | with_reducible refine rd_and ?_ | with_reducible refine rd_or ?_ | with_reducible refine rd_ret ?_ | with_reducible refine rd_cmeth ?_ | with_reducible refine rd_o ?_ | with_reducible refine rd_I0 ?_
  | ((with_reducible show @Eq (Option HO) _ Option.none → _); intro) | with_reducible refine rd_m1 ?_ | with_reducible refine rd_exStr ?_ | ((with_reducible refine' rd_iNat ?k1 ?_); (case k1 => walk_at "ls"))
  | ((with_reducible refine' rd_taken ?k1 ?k2 ?k3 ?_); (case k1 => walk_at "row"); (case k2 => walk_at "om"); (case k3 => walk_at "om"))
  | ((with_reducible refine' rd_word ?k1 ?k2 ?k3 ?_); (case k1 => walk_at "row"); (case k2 => walk_at "om"); (case k3 => walk_at "om"))
  | ((with_reducible refine' rd_stepsL ?k1 ?k2 ?k3 ?k4 ?k5 ?_); (case k1 => walk_at "row"); (case k2 => walk_at "om"); (case k3 => walk_at "om"); (case k4 => walk_at "om"); (case k5 => walk_at "om"))
  | ((with_reducible refine' rd_listS ?k1 ?_); (case k1 => walk_at "ts"))
  | ((with_reducible refine' rd_ofSteps ?k1 ?k2 ?k3 ?_); (case k1 => walk_at "sx"); (case k2 => walk_at "om"); (case k3 => walk_at "om"))
  | ((with_reducible refine' rd_pSize ?k1 ?_); (case k1 => walk_at "tx"))
  | ((with_reducible refine' rd_pTyped ?k1 ?_); (case k1 => walk_at "tx"))
  | ((with_reducible refine' rd_pSteps ?k1 ?_); (case k1 => walk_at "tx"))
  | ((with_reducible refine' rd_oCall ?k1 ?k2 ?k3 ?_); (case k1 => walk_at "tx"); (case k2 => walk_at "om"); (case k3 => walk_at "om"))
  | ((with_reducible refine' rd_oItem ?k1 ?k2 ?k3 ?_); (case k1 => walk_at "tx"); (case k2 => walk_at "om"); (case k3 => walk_at "om"))
  | ((with_reducible refine' rd_opAdd ?k1 ?k2 ?k3 ?k4 ?_); (case k1 => walk_at "tx"); (case k2 => walk_at "tx"); (case k3 => walk_at "om"); (case k4 => walk_at "om"))
  | ((with_reducible refine' rd_opMul ?k1 ?k2 ?k3 ?k4 ?k5 ?_); (case k1 => walk_at "tx"); (case k2 => walk_at "om"); (case k3 => walk_at "om"); (case k4 => walk_at "om"); (case k5 => walk_at "om"))
  | ((with_reducible refine' rd_opEq ?k1 ?k2 ?_); (case k1 => walk_at "tx"); (case k2 => walk_at "tx"))
  | ((with_reducible refine' rd_opEqT ?k1 ?k2 ?_); (case k1 => walk_at "tx"); (case k2 => walk_at "ts"))
  | ((with_reducible refine' rd_opNe ?k1 ?k2 ?_); (case k1 => walk_at "tx"); (case k2 => walk_at "tx"))
  | ((with_reducible refine' rd_mTx ?k1 ?k2 ?_); (case k1 => walk_at "tx"); (case k2 => decide +kernel))
  | ((with_reducible refine' rd_mRetyped ?k1 ?k2 ?k3 ?_); (case k1 => walk_at "tx"); (case k2 => walk_at "om"); (case k3 => walk_at "om"))
  | ((with_reducible refine' rd_eqTT ?k1 ?k2 ?k3 ?k4 ?_); (case k1 => walk_at "ts"); (case k2 => walk_at "ts"); (case k3 => first | assumption | trivial); (case k4 => first | assumption | trivial))
  | ((with_reducible refine' rd_neTT ?k1 ?k2 ?k3 ?k4 ?_); (case k1 => walk_at "ts"); (case k2 => walk_at "ts"); (case k3 => first | assumption | trivial); (case k4 => first | assumption | trivial))
  | ((with_reducible refine' rd_neNN ?k1 ?k2 ?_); (case k1 => walk_at "ls"); (case k2 => walk_at "ls"))
  | ((with_reducible refine' rd_eqNN ?k1 ?k2 ?_); (case k1 => walk_at "ls"); (case k2 => walk_at "ls"))
  | ((with_reducible refine' rd_lenN ?k1 ?_); (case k1 => walk_at "ls"))
  | ((with_reducible refine' rd_lenS ?k1 ?_); (case k1 => walk_at "om"))
  | ((with_reducible refine' rd_ixN ?k1 ?k2 ?k3 ?_); (case k1 => walk_at "ls"); (case k2 => walk_at "om"); (case k3 => walk_at "om"))
  | ((with_reducible refine' rd_ixC ?k1 ?k2 ?k3 ?_); (case k1 => walk_at "om"); (case k2 => walk_at "om"); (case k3 => walk_at "om"))
  | ((with_reducible refine' rd_gtup ?k1 ?k2 ?_); (case k1 => exact SqT.of (by assumption)); (case k2 => rfl))
  | ((with_reducible refine' rd_new ?k1 ?_); (case k1 => walk_at "zl"))
  | with_reducible refine rd_ref1 ?_
  | with_reducible refine rd_nF rfl ?_ | with_reducible refine rd_dT rfl ?_ | with_reducible refine rd_cT rfl ?_ | with_reducible refine rd_cF rfl ?_
  | ((with_reducible refine' rd_dT ?k1 ?_); (case k1 => omega)) | ((with_reducible refine' rd_dF ?k1 ?_); (case k1 => omega)) | ((with_reducible refine' rd_nT ?k1 ?_); (case k1 => omega)) | ((with_reducible refine' rd_nF ?k1 ?_); (case k1 => omega)))
local macro_rules | `(tactic| walk_at "rdS") => `(tactic| repeat ((fail_if_success with_reducible show tIfS _ _ _ _ _ _); walk_at "rd1"))
section
variable {P : Program} {w : World} {K : PySem.W.Frag} {mg : Str → Option Value} {base : Heap} {CText CPart CEditor CDecoder CTextError CInvalidStep CInvalidOperation CDecodeError CNotationError CTooLong CInvalidPlace CInvalidLetter CContradiction CInvalidCount c_law p_law : Addr}
theorem ok_Editor_init (T : Txt K mg CText CPart CEditor CDecoder CTextError CInvalidStep CInvalidOperation CDecodeError CNotationError CTooLong CInvalidPlace CInvalidLetter CContradiction CInvalidCount c_law p_law) : KOk P w K mg base CX0 6 CEditor (spStar 1 (sp_Editor_init K CText CPart CEditor)) := by
  refine T.d_Editor_init.ok sc_Editor_init (fun f cdv A outer s H vs Q E hr h => ?_)
  · obtain ⟨x, dx, m, rs, ss, rfl, hx, hm, hs, ok, few, k⟩ := h
    refine ⟨_, (pss_cons (ps_fld (pv 0) (pe_ks (pe_glob (v := .ref CText) rfl T.g_Text rfl) (ok_Text_init (K := K) T) (hr.mono (by decide)) pass0 (pv 1)) rfl)
    (pss_cons (ps_fld (pv 0) (pe_tup pa_nil) rfl)
    (pss_cons (ps_fld (pv 0) (pe_tup pa_nil) rfl)
    (pss_cons (ps_fld (pv 0) pe_bl rfl)
    (pss_cons (ps_fld (pv 0) (pe_fldK (K := K) rfl (pv 0) (by rfl)) rfl)
    (pss_cons (ps_fld (pv 0) (pe_tup pa_nil) rfl)
    (pss_one (ps_fld (pv 0) (pe_tup pa_nil) rfl)))))))), ?_⟩
    refine rd_startE (show start N_Editor_init [.ref x, .ref m] = [some (.ref x), some (.ref m)] from rfl) ?_
    walk_at "rd"
    refine rd_mkS (.inl hm) (rd_mkText hs ok few fun p H1 t np S1 T1 e1 => ?_)
    walk_at "rd"
    refine rd_edset (S1 _ _ hx) T.cEditor T.na_Editor_present (by decide) fun H2 b2 e2 => ?_
    walk_at "rd"
    intro q3 H3 S3 e3 _
    walk_at "rd"
    refine rd_edset (S3 _ _ e2) T.cEditor T.na_Editor_done fl1 fun H4 b4 e4 => ?_
    walk_at "rd"
    intro q5 H5 S5 e5 _
    walk_at "rd"
    refine rd_edset (S5 _ _ e4) T.cEditor T.na_Editor_undone fl2 fun H6 b6 e6 => ?_
    walk_at "rd"
    refine rd_edset e6 T.cEditor T.na_Editor_is_open fl3 fun H7 b7 e7 => ?_
    walk_at "rd"
    refine rd_fld_at e7 T.cEditor T.na_Editor_present (by rw [lookup_putF, if_neg (by decide +kernel), lookup_putF, if_neg (by decide +kernel), lookup_putF, if_neg (by decide +kernel), lookup_putF, if_pos rfl]) ?_
    walk_at "rd"
    refine rd_edset e7 T.cEditor T.na_Editor_kept_present fl4 fun H8 b8 e8 => ?_
    walk_at "rd"
    intro q9 H9 S9 e9 _
    walk_at "rd"
    refine rd_edset (S9 _ _ e8) T.cEditor T.na_Editor_kept_done fl5 fun H10 b10 e10 => ?_
    walk_at "rd"
    intro q11 H11 S11 e11 _
    walk_at "rd"
    refine rd_edset (S11 _ _ e10) T.cEditor T.na_Editor_kept_undone fl6 fun H12 b12 e12 => ?_
    walk_at "rd"
    rw [edF_made] at e12
    have m5 : Km CEditor [] H5 H12 := (((((Km.but b6 (S5 _ _ e4)).trans (.but b7 e6)).trans (.but b8 e7)).trans (.same S9)).trans (.but b10 (S9 _ _ e8))).trans ((Km.same S11).trans (.but b12 (S11 _ _ e10)))
    have m3 : Km CEditor [] H3 H12 := ((Km.but b4 (S3 _ _ e2)).trans (.same S5)).trans m5
    have m1 : Km CEditor [] H1 H12 := ((Km.but b2 (S1 _ _ hx)).trans (.same S3)).trans m3
    refine k _ (((((((But.same S1).trans b2).trans (.same S3)).trans b4).trans (.same S5)).trans b6).trans (((b7.trans b8).trans (.same S9)).trans ((b10.trans (.same S11)).trans b12))) ?_
    exact ⟨⟨dx, p, q3, q5, _, _, _, [], [], ss, [], []⟩, ⟨e12, TX.km ⟨t, T1, e1⟩ T.ne_Text_Editor T.ne_Part_Editor m1, m3.tup (SqT.of e3), .nil, m5.tup (SqT.of e5), .nil⟩, rfl, rfl, rfl⟩
end
section
variable {P : Program} {w : World} {K : PySem.W.Frag} {mg : Str → Option Value} {base : Heap} {CText CPart CEditor CDecoder CTextError CInvalidStep CInvalidOperation CDecodeError CNotationError CTooLong CInvalidPlace CInvalidLetter CContradiction CInvalidCount c_law p_law : Addr}
theorem ok_Editor_present_text (T : Txt K mg CText CPart CEditor CDecoder CTextError CInvalidStep CInvalidOperation CDecodeError CNotationError CTooLong CInvalidPlace CInvalidLetter CContradiction CInvalidCount c_law p_law) : POk P w K mg base CX0 1 CEditor "present_text" (sp_Editor_present_text K CText CPart CEditor) := by
  refine T.d_Editor_present_text.ok sc_Editor_present_text (fun vs H Q E h => ?len) (fun f cdv A outer s H vs Q E hr h => ?_)
  case len => obtain ⟨e, ss, ds, us, rfl, _⟩ := h; rfl
  · obtain ⟨e, ss, ds, us, rfl, ed, k⟩ := h
    obtain ⟨i, ed, rfl, rfl, rfl⟩ := ed
    refine ⟨_, (pss_one (ps_ret (pe_fldK (K := K) rfl (pv 0) (by rfl)))), ?_⟩
    refine rd_startE (show start N_Editor_present_text [.ref e] = [some (.ref e)] from rfl) ?_
    walk_at "rd"
    refine rd_fld_at ed.ins T.cEditor T.na_Editor_present edF_present ?_
    exact k _ ed.tx
end
section
variable {P : Program} {w : World} {K : PySem.W.Frag} {mg : Str → Option Value} {base : Heap} {CText CPart CEditor CDecoder CTextError CInvalidStep CInvalidOperation CDecodeError CNotationError CTooLong CInvalidPlace CInvalidLetter CContradiction CInvalidCount c_law p_law : Addr}
theorem ok_Editor_apply (T : Txt K mg CText CPart CEditor CDecoder CTextError CInvalidStep CInvalidOperation CDecodeError CNotationError CTooLong CInvalidPlace CInvalidLetter CContradiction CInvalidCount c_law p_law) : BOk P w K mg base CX0 1 CEditor "apply" (spStar 1 (sp_Editor_apply0 K CText CPart CEditor)) := by
  refine T.d_Editor_apply.ok sc_Editor_apply (fun f cdv A outer s H vs Q E hr h => ?_)
  · obtain ⟨e, m, ss, ds, us, rfl, ed, hm, k⟩ := h
    obtain ⟨i, ed, rfl, rfl, rfl⟩ := ed
    refine ⟨_, (pss_cons (ps_for PassesOwn.never rfl (pi_enumT T.n_enumerate (pa_cons (pv 1) pa_nil)) (pg_tupK (K := K) (n := 2) rfl rfl (pgs_cons (pg_name (i := 2) sc_Editor_apply.nd rfl (Or.inl rfl)) (pgs_cons (pg_name (i := 3) sc_Editor_apply.nd rfl (Or.inl rfl)) pgs_nil))) (pss_one (ps_never)))
    (pss_cons (ps_asg (pe_tup (pa_cons (pe_fldK (K := K) rfl (pv 0) (by rfl)) (pa_cons (pe_fldK (K := K) rfl (pv 0) (by rfl)) (pa_cons (pe_fldK (K := K) rfl (pv 0) (by rfl)) (pa_cons (pe_lst pa_nil) (pa_cons pe_non pa_nil)))))) (pg_tupK (K := K) (n := 5) rfl rfl (pgs_cons (pg_name (i := 4) sc_Editor_apply.nd rfl (Or.inl rfl)) (pgs_cons (pg_name (i := 5) sc_Editor_apply.nd rfl (Or.inl rfl)) (pgs_cons (pg_name (i := 6) sc_Editor_apply.nd rfl (Or.inl rfl)) (pgs_cons (pg_name (i := 7) sc_Editor_apply.nd rfl (Or.inl rfl)) (pgs_cons (pg_name (i := 8) sc_Editor_apply.nd rfl (Or.inl rfl)) pgs_nil)))))))
    (pss_cons (ps_fin0 (pss_cons (ps_for PassesOwn.never rfl (pi_tupK (K := K) rfl (pv 1)) (pg_name (i := 3) sc_Editor_apply.nd rfl (Or.inl rfl)) (pss_one (ps_never)))
    (pss_one (ps_set (i := 8) sc_Editor_apply.nd rfl (Or.inl rfl) pe_bl)))
    (pss_one (ps_if (pt_cmpR oIsN (pv 8) pe_non (nomark _)) (pss_one (ps_asg (pe_tup (pa_cons (pv 4) (pa_cons (pv 5) (pa_cons (pv 6) pa_nil)))) (pg_tupK (K := K) (n := 3) rfl rfl (pgs_cons (pg_fld (K := K) rfl (pv 0)) (pgs_cons (pg_fld (K := K) rfl (pv 0)) (pgs_cons (pg_fld (K := K) rfl (pv 0)) pgs_nil))))))
    pss_nil)))
    (pss_one (ps_ret (pv 7)))))), ?_⟩
    refine rd_startE (show start N_Editor_apply [.ref e, .ref m] = [some (.ref e), some (.ref m), none, none, none, none, none, none, none] from rfl) ?_
    walk_at "rd_Fa"
    refine ⟨m, [], rfl, hm, for_enumT (xs := []) (fun j σ H' => ∃ v2 v3, σ = [some (.ref e), some (.ref m), v2, v3, none, none, none, none, none] ∧ Same H H')
      ⟨_, _, rfl, Same.refl _⟩ (fun j σ H' _ ⟨_, _, _, S⟩ => Same.tup S hm) ?_ ?_⟩
    · rintro j v' tu σ H1 hv' _ hT
      simp at hv'
    · rintro σ H1 ⟨v2, v3, rfl, S1⟩
      have ed1 := ed.same S1
      walk_at "rd_Fa"
      refine rd_fld_at ed1.ins T.cEditor T.na_Editor_present edF_present ?_
      walk_at "rd_Fa"
      refine rd_fld_at ed1.ins T.cEditor T.na_Editor_done edF_done ?_
      walk_at "rd_Fa"
      refine rd_fld_at ed1.ins T.cEditor T.na_Editor_undone edF_undone ?_
      walk_at "rd_Fa"
      intro R H2 S2 e2 n2
      walk_at "rd_Fa"
      intro tp H3 S3 e3 _
      refine rd_gtup (SqT.of e3) rfl ?_
      walk_at "rd_Fa"
      refine rd_fin0 ?_
      walk_at "rd_Fa"
      have S03 : Same H H3 := Same.trans S1 (Same.trans S2 S3)
      refine ⟨⟨_, Same.tup S03 hm⟩, for_tup (xs := []) (fun j σ H' => ∃ v2 v3, σ = [some (.ref e), some (.ref m), v2, v3, some (.ref i.p), some (.ref i.d), some (.ref i.u), some (.ref R), some .non] ∧ Same H3 H')
        ⟨_, _, rfl, Same.refl _⟩ (fun j σ H' _ ⟨_, _, _, S⟩ => Same.tup (Same.trans S03 S) hm) ?_ ?_⟩
      · rintro j v' σ H4 hv' _
        simp at hv'
      · rintro σ H4 ⟨v2, v3, rfl, S4⟩
        walk_at "rd_Fa"
        exact k H4 R (Same.trans S03 S4) (S4 _ _ (S3 _ _ e2))
end
section
variable {P : Program} {w : World} {K : PySem.W.Frag} {mg : Str → Option Value} {base : Heap} {CText CPart CEditor CDecoder CTextError CInvalidStep CInvalidOperation CDecodeError CNotationError CTooLong CInvalidPlace CInvalidLetter CContradiction CInvalidCount c_law p_law : Addr}
theorem ok_Editor_replay (T : Txt K mg CText CPart CEditor CDecoder CTextError CInvalidStep CInvalidOperation CDecodeError CNotationError CTooLong CInvalidPlace CInvalidLetter CContradiction CInvalidCount c_law p_law) : COk P w K mg base CX0 8 CEditor "replay" (sp_Editor_replay0 K CText CPart CEditor) := by
  refine T.d_Editor_replay.ok sc_Editor_replay (fun vs H Q E h => ?len) (fun f cdv A outer s H vs Q E hr h => ?_)
  case len => obtain ⟨t, rs, ss, l, rfl, _⟩ := h; rfl
  · obtain ⟨t, rs, ss, l, rfl, ht, hs, ok, few, hl, k⟩ := h
    refine ⟨_, (pss_cons (ps_set (i := 3) sc_Editor_replay.nd rfl (Or.inl rfl) (pe_ks (pv 0) (ok_Editor_init (K := K) T) (hr.mono (by decide)) pass0 (pv 1)))
    (pss_cons (ps_expr (pe_mS (K := K) rfl (pv 3) T.cEditor (ok_Editor_apply (K := K) T) (hr.mono (by decide)) pass0 (pv 2)))
    (pss_one (ps_ret (pv 3))))), ?_⟩
    refine rd_startE (show start N_Editor_replay [.ref CEditor, .ref t, .ref l] = [some (.ref CEditor), some (.ref t), some (.ref l), none] from rfl) ?_
    walk_at "rd_Fa"
    refine rd_mkS (.inl ht) (rd_mkEd hs ok few fun x H1 nx S1 ed => ?_)
    walk_at "rd_Fa"
    refine rd_mS ?_
    walk_at "rd_Fa"
    refine ⟨ed.insM, fun H2 S2 => ?_⟩
    walk_at "rd_Fa"
    have S02 : Same H H2 := Same.trans S1 S2
    refine ⟨Same.refl _, l, [], rfl, hl.imp (Same.tup S02) (Same.seq S02), ?_⟩
    refine ⟨[.ref x], [], rfl, rfl, by rw [sizeLine_eq]; decide, fun p np => ?_⟩
    have S3 : Same H2 (upd H2 p (.tup [])) := Same.new (Same.refl _) np
    refine ⟨x, p, ss, [], [], rfl, (ed.same S2).same S3, SqT.of upd_same, fun H4 l4 S4 e4 => ?_⟩
    walk_at "rd_Fa"
    exact k H4 x (Same.trans S02 (Same.trans S3 S4)) nx (((ed.same S2).same S3).same S4)
end
section
variable {P : Program} {w : World} {K : PySem.W.Frag} {mg : Str → Option Value} {base : Heap} {CText CPart CEditor CDecoder CTextError CInvalidStep CInvalidOperation CDecodeError CNotationError CTooLong CInvalidPlace CInvalidLetter CContradiction CInvalidCount c_law p_law : Addr}
theorem gv_x_law_told {X : Cx} (T : Txt X.K X.mg CText CPart CEditor CDecoder CTextError CInvalidStep CInvalidOperation CDecodeError CNotationError CTooLong CInvalidPlace CInvalidLetter CContradiction CInvalidCount c_law p_law) (g : Addr) (cdg : Value) : Gives X N_x_law_told "_law_told" (defScope s_x_law_told) g cdg (defBody s_x_law_told) "_law_work"
    (fun tl H Q => tl (fun cls d H' => ToAns X.K CTextError [CInvalidStep, CInvalidOperation, CDecodeError, CNotationError, CTooLong, CInvalidPlace, CInvalidLetter, CContradiction, CInvalidCount] cls d H' Q) H Q) := by
  refine gives_ret (i := 1) (CS := CTextError) sc_x_law_told.nd rfl rfl rfl T.xb_TextError.g rfl (fun f => rfl) (fun s H hr e oe cls d pn hz hf => (pss_cons (ps_set (i := 2) sc_x_law_told.nd rfl (Or.inl rfl) (pe_lst (pa_cons (pe_callB (call_isX (K := X.K) rfl hz hf) rfl T.n_isinstance (by decide +kernel) (pa_cons (pv 1) (pa_cons (pe_glob (v := .ref CInvalidStep) rfl T.x_InvalidStep.g rfl) pa_nil))) (pa_cons (pe_callB (call_isX (K := X.K) rfl hz hf) rfl T.n_isinstance (by decide +kernel) (pa_cons (pv 1) (pa_cons (pe_glob (v := .ref CInvalidOperation) rfl T.x_InvalidOperation.g rfl) pa_nil))) (pa_cons (pe_callB (call_isX (K := X.K) rfl hz hf) rfl T.n_isinstance (by decide +kernel) (pa_cons (pv 1) (pa_cons (pe_glob (v := .ref CDecodeError) rfl T.x_DecodeError.g rfl) pa_nil))) pa_nil)))))
    (pss_cons (ps_set (i := 2) sc_x_law_told.nd rfl (Or.inl rfl) (pe_op (addK (K := X.K) rfl) (pv 2) (pe_lst (pa_cons (pe_callB (call_isX (K := X.K) rfl hz hf) rfl T.n_isinstance (by decide +kernel) (pa_cons (pv 1) (pa_cons (pe_glob (v := .ref CNotationError) rfl T.x_NotationError.g rfl) pa_nil))) (pa_cons (pe_callB (call_isX (K := X.K) rfl hz hf) rfl T.n_isinstance (by decide +kernel) (pa_cons (pv 1) (pa_cons (pe_glob (v := .ref CTooLong) rfl T.x_TooLong.g rfl) pa_nil))) (pa_cons (pe_callB (call_isX (K := X.K) rfl hz hf) rfl T.n_isinstance (by decide +kernel) (pa_cons (pv 1) (pa_cons (pe_glob (v := .ref CInvalidPlace) rfl T.x_InvalidPlace.g rfl) pa_nil))) pa_nil))))))
    (pss_cons (ps_set (i := 2) sc_x_law_told.nd rfl (Or.inl rfl) (pe_op (addK (K := X.K) rfl) (pv 2) (pe_lst (pa_cons (pe_callB (call_isX (K := X.K) rfl hz hf) rfl T.n_isinstance (by decide +kernel) (pa_cons (pv 1) (pa_cons (pe_glob (v := .ref CInvalidLetter) rfl T.x_InvalidLetter.g rfl) pa_nil))) (pa_cons (pe_callB (call_isX (K := X.K) rfl hz hf) rfl T.n_isinstance (by decide +kernel) (pa_cons (pv 1) (pa_cons (pe_glob (v := .ref CContradiction) rfl T.x_Contradiction.g rfl) pa_nil))) (pa_cons (pe_callB (call_isX (K := X.K) rfl hz hf) rfl T.n_isinstance (by decide +kernel) (pa_cons (pv 1) (pa_cons (pe_glob (v := .ref CInvalidCount) rfl T.x_InvalidCount.g rfl) pa_nil))) pa_nil))))))
    (pss_cons (ps_set (i := 3) sc_x_law_told.nd rfl (Or.inl rfl) (pe_lst (pa_cons pe_str (pa_cons pe_str (pa_cons pe_str (pa_cons pe_str (pa_cons pe_str (pa_cons pe_str pa_nil))))))))
    (pss_cons (ps_set (i := 3) sc_x_law_told.nd rfl (Or.inl rfl) (pe_op (addK (K := X.K) rfl) (pv 3) (pe_lst (pa_cons pe_str (pa_cons pe_str (pa_cons pe_str (pa_cons pe_str pa_nil)))))))
    (pss_cons (ps_set (i := 4) sc_x_law_told.nd rfl (Or.inl rfl) (pe_ifExp (PW.pt (pw_and (pt_cmpR (eqK (K := X.K) rfl hr.units) (pe_bmK (K := X.K) rfl PySem.F.plainAttrs_list PySem.F.slot_list_count PySem.F.type_list_count (mt_bcountK (K := X.K) rfl) (pv 2) (pa_cons pe_bl pa_nil)) pe_int (nomark _)) (pw_and1 (pt_val (pe_callB (call_isX (K := X.K) rfl hz hf) rfl T.n_isinstance (by decide +kernel) (pa_cons (pv 1) (pa_cons (pe_bltn (v := .ty "ValueError") rfl T.n_ValueError (by decide +kernel) rfl) pa_nil))))))) (pe_bmK (K := X.K) rfl PySem.F.plainAttrs_list PySem.F.slot_list_index PySem.F.type_list_index (mt_indexK (K := X.K) rfl) (pv 2) (pa_cons pe_bl pa_nil)) pe_int))
    (pss_cons (ps_if (pt_cmpR op_lt (pv 4) pe_int (nomark _)) (pss_one (ps_ret (pe_tup (pa_cons pe_str (pa_cons (pe_ix (ixK (K := X.K) rfl) (pv 3) (pv 4) (fun _ _ => rfl)) (pa_cons (pe_xf2 (K := X.K) rfl hz hf (pv 1)) pa_nil))))))
    pss_nil)
    (pss_cons (ps_if (pt_cmpR op_lt (pv 4) pe_int (nomark _)) (pss_one (ps_ret (pe_ifExp (pt_cmpR (eqK (K := X.K) rfl hr.units) (pv 4) pe_int (nomark _)) (pe_tup (pa_cons pe_str (pa_cons (pe_ix (ixK (K := X.K) rfl) (pv 3) (pv 4) (fun _ _ => rfl)) (pa_cons (pe_xf2 (K := X.K) rfl hz hf (pv 1)) pa_nil)))) (pe_tup (pa_cons pe_str (pa_cons (pe_ix (ixK (K := X.K) rfl) (pv 3) (pv 4) (fun _ _ => rfl)) (pa_cons (pe_xf2 (K := X.K) rfl hz hf (pv 1)) (pa_cons (pe_xf2 (K := X.K) rfl hz hf (pv 1)) pa_nil))))))))
    pss_nil)
    (pss_one (ps_ret (pe_tup (pa_cons pe_str (pa_cons (pe_ix (ixK (K := X.K) rfl) (pv 3) (pv 4) (fun _ _ => rfl)) pa_nil)))))))))))))) (fun cls d H Q h => ?_) (fun cls d H Q f e nx bk ct h he => ?_)
  · obtain ⟨i, D, w, rfl, hc, _⟩ := h
    exact hc.exm
  · have hdict := h.dict
    obtain ⟨i, D, w, rfl, hc, hw, hans⟩ := h
    have hi : i < 9 := (List.getElem?_eq_some_iff.mp hw).1
    have dm : ∀ {H' : Hp}, Same H H' → d = none ∨ ∃ dd fs, d = some dd ∧ H' dd = some (.xd fs) := fun S => hdict.imp id fun ⟨dd, fs, e1, e2⟩ => ⟨dd, fs, e1, S _ _ e2⟩
    rw [show (start N_x_law_told [V.ref f]).set 1 (some (V.ref e)) = [some (V.ref f), some (V.ref e), none, none, none] from rfl]
    walk_at "rd_Fa"
    refine rd_isX hc.isi (dm (Same.refl _)) (hc.kit 0 _ rfl) ?_
    walk_at "rd_Fa"
    refine rd_isX hc.isi (dm (Same.refl _)) (hc.kit 1 _ rfl) ?_
    walk_at "rd_Fa"
    refine rd_isX hc.isi (dm (Same.refl _)) (hc.kit 2 _ rfl) ?_
    walk_at "rd_Fa"
    intro l1 H1 S1 e1 n1
    walk_at "rd_Fa"
    refine rd_isX hc.isi (dm S1) (hc.kit 3 _ rfl) ?_
    walk_at "rd_Fa"
    refine rd_isX hc.isi (dm S1) (hc.kit 4 _ rfl) ?_
    walk_at "rd_Fa"
    refine rd_isX hc.isi (dm S1) (hc.kit 5 _ rfl) ?_
    walk_at "rd_Fa"
    intro l2 H2 S2 e2 n2
    walk_at "rd_Fa"
    refine rd_addSame (S2 _ _ e1) e2 (by rw [sizeLine_eq]; show 6 ≤ 16777216; decide) fun l3 H3 S23 n3 e3 => ?_
    have S3 : Same H H3 := (S1.trans S2).trans S23
    clear S23 n3
    walk_at "rd_Fa"
    refine rd_isX hc.isi (dm S3) (hc.kit 6 _ rfl) ?_
    walk_at "rd_Fa"
    refine rd_isX hc.isi (dm S3) (hc.kit 7 _ rfl) ?_
    walk_at "rd_Fa"
    refine rd_isX hc.isi (dm S3) (hc.kit 8 _ rfl) ?_
    walk_at "rd_Fa"
    intro l4 H4 S4 e4 n4
    walk_at "rd_Fa"
    refine rd_addSame (S4 _ _ e3) e4 (by rw [sizeLine_eq]; show 9 ≤ 16777216; decide) fun l5 H5 S45 n5 e5 => ?_
    have S5 : Same H H5 := (S3.trans S4).trans S45
    have e5 : H5 l5 = some (.lst ((kb9 i).map V.bl)) := e5
    clear S45 n5 e3 S3 e1 S1 S2 e2 S4 e4 n1 n2 n4
    walk_at "rd_Fa"
    intro l6 H6 S6 e6 n6
    walk_at "rd_Fa"
    intro l7 H7 S7 e7 n7
    walk_at "rd_Fa"
    refine rd_addSame (S7 _ _ e6) e7 (by rw [sizeLine_eq]; show 10 ≤ 16777216; decide) fun l8 H8 S78 n8 e8 => ?_
    have S8 : Same H H8 := S5.trans ((S6.trans S7).trans S78)
    have e9 : H8 l5 = some (.lst ((kb9 i).map V.bl)) := S78 _ _ (S7 _ _ (S6 _ _ e5))
    have e8 : H8 l8 = some (.lst (to10.map V.str)) := e8
    clear S78 n8 e6 S6 e5 S5 S7 e7 n6 n7
    walk_at "rd_Fa"
    refine rd_tyL (SqL.of e9) _ ?_
    walk_at "rd_Fa"
    refine rd_bcount (L := kb9 i) (SqL.of e9) ?_
    rw [kb9_count i hi]
    walk_at "rd_Fa"
    refine rd_isXT hc.isi (dm S8) hc.ve ?_
    walk_at "rd_Fa"
    refine rd_tyL (SqL.of e9) _ ?_
    walk_at "rd_Fa"
    refine rd_kb9Index hi e9 ?_
    walk_at "rd_Fa"
    have e10 : atI (to10.map V.str) (i : Nat) = some (.str w) := atI_nat (by rw [List.getElem?_map, to10_at hw]; rfl)
    rcases hans with ⟨h2, hF, dd, n, fs, rfl, hx, hl, k⟩ | ⟨h2, hF, dd, n, fs, rfl, hx, hl, k⟩ | ⟨h2, hF, hG, dd, n, m, fs, rfl, hx, hl, hm, k⟩ | ⟨h2, rfl, k⟩
    · refine rd_dT (by omega) ?_
      walk_at "rd_Fa"
      refine rd_ixI ?_ (SqL.of e8) e10
      walk_at "rd_Fa"
      refine ⟨_, rfl, rfl, D, dd, fs, .int n, rfl, hF.xf, hF.no, rfl, S8 _ _ hx, hl, ?_⟩
      walk_at "rd_Fa"
      intro p Hp Sp ep _
      exact k p Hp (S8.trans Sp) ep
    · subst h2
      refine rd_dF (by omega) ?_
      walk_at "rd_Fa"
      refine rd_ixI ?_ (SqL.of e8) e10
      walk_at "rd_Fa"
      refine ⟨_, rfl, rfl, D, dd, fs, .int n, rfl, hF.xf, hF.no, rfl, S8 _ _ hx, hl, ?_⟩
      walk_at "rd_Fa"
      intro p Hp Sp ep _
      exact k p Hp (S8.trans Sp) ep
    · subst h2
      refine rd_dF (by omega) ?_
      walk_at "rd_Fa"
      refine rd_ixI ?_ (SqL.of e8) e10
      walk_at "rd_Fa"
      refine ⟨_, rfl, rfl, D, dd, fs, n, rfl, hF.xf, hF.no, rfl, S8 _ _ hx, hl, ?_⟩
      walk_at "rd_Fa"
      refine ⟨_, rfl, rfl, D, dd, fs, m, rfl, hG.xf, hG.no, rfl, S8 _ _ hx, hm, ?_⟩
      walk_at "rd_Fa"
      intro p Hp Sp ep _
      exact k p Hp (S8.trans Sp) ep
    · refine rd_dF (by omega) ?_
      walk_at "rd_Fa"
      refine rd_ixI ?_ (SqL.of e8) e10
      walk_at "rd_Fa"
      intro p Hp Sp ep _
      exact k p Hp (S8.trans Sp) ep
end
section
variable {P : Program} {w : World} {K : PySem.W.Frag} {mg : Str → Option Value} {base : Heap} {CText CPart CEditor CDecoder CTextError CInvalidStep CInvalidOperation CDecodeError CNotationError CTooLong CInvalidPlace CInvalidLetter CContradiction CInvalidCount c_law p_law : Addr}
theorem ok_x_law_word (T : Txt K mg CText CPart CEditor CDecoder CTextError CInvalidStep CInvalidOperation CDecodeError CNotationError CTooLong CInvalidPlace CInvalidLetter CContradiction CInvalidCount c_law p_law) : GOk P w K mg base CX0 3 "_law_word" (sp_x_law_wordD K) := by
  refine T.d_x_law_word.ok sc_x_law_word (fun vs H Q E h => ?len) (fun f cdv A outer s H vs Q E hr h => ?_)
  case len => obtain ⟨r, rfl, _⟩ := h; rfl
  · obtain ⟨r, rfl, row, k⟩ := h
    refine ⟨_, (pss_one (ps_ret (pe_joinK (K := K) rfl pe_str (pe_lc (own := [("_law_k", 1)]) rfl sc_x_law_word.nd (pi_range1 rfl T.n_range (pa_cons (pe_op (addK (K := K) rfl) pe_int (pe_g (ok_x_law_next (K := K) T) (hr.mono (by decide)) pass0 (pa_cons (pv 0) (pa_cons pe_int pa_nil)))) pa_nil)) (blkOk_by (own := [("_law_k", 1)]) (N := N_x_law_word) (sc := (defScope s_x_law_word)) (by first | decide +kernel | rfl)) (fun _ _ _ _ _ => (pg_name (i := 1) sc_x_law_word.nd rfl (Or.inl rfl))) (fun _ _ _ _ _ => pts_nil) (fun _ _ _ _ _ => (pe_g (ok_x_law_pick (K := K) T) (hr.mono (by decide)) pass0 (pa_cons (pv 0) (pa_cons (pe_lst (pa_cons pe_str (pa_cons pe_str (pa_cons pe_str (pa_cons pe_str pa_nil))))) pa_nil)))))))), ?_⟩
    refine rd_startE (show start N_x_law_word [.ref r] = [some (.ref r), none] from rfl) ?_
    walk_at "rd_Fa"
    refine rd_nextD row (by decide) (by decide) fun n H1 hn k1 row1 => ?_
    walk_at "rd_Fa"
    refine ⟨_, rfl, by omega, by omega, fun D hD => lc_draw (n := n + 1) (it := fun i => .int (0 + (i : Nat))) (fun c : Nat => V.str ⟨#[c]⟩) (fun _ => rfl) (fun H' => by rw [show (1 + (n : Int)).toNat = n + 1 by omega]; exact plain_rng) hD (by rw [sizeLine_eq]; omega) (fun v => rfl) row1 (fun c => c = 97 ∨ c = 98 ∨ c = 99 ∨ c = 122) (fun i H2 Q2 hi k2 row2 q => ?_) fun H2 ss k2 row2 eD hl hs => ?_⟩
    · walk_at "rd_Fa"
      intro l3 H3 S3 e3 _
      walk_at "rd_Fa"
      refine rd_pick (row2.mono S3) (SqL.of e3) (nr_vals fun v hv => by simp at hv; rcases hv with rfl | rfl | rfl | rfl <;> rfl) (by decide) (by decide) fun j v H4 hv k4 row4 => ?_
      obtain ⟨c, rfl, hc⟩ := pick_abcz hv
      exact q c H4 hc ((Kp.same S3).trans k4) row4
    · refine rd_joinS (L := ss) eD (by omega) ?_
      refine k (mkS ss) H2 ⟨?_, ?_, ?_⟩ (k1.trans k2) row2
      · rw [mkS_len]; omega
      · rw [mkS_len]; omega
      · rw [tl_mkS]; exact hs
end
section
variable {P : Program} {w : World} {K : PySem.W.Frag} {mg : Str → Option Value} {base : Heap} {CText CPart CEditor CDecoder CTextError CInvalidStep CInvalidOperation CDecodeError CNotationError CTooLong CInvalidPlace CInvalidLetter CContradiction CInvalidCount c_law p_law : Addr}
theorem ok_x_law_drawn (T : Txt K mg CText CPart CEditor CDecoder CTextError CInvalidStep CInvalidOperation CDecodeError CNotationError CTooLong CInvalidPlace CInvalidLetter CContradiction CInvalidCount c_law p_law) : GOk P w K mg base CX0 4 "_law_drawn" (sp_x_law_drawn K) := by
  refine T.d_x_law_drawn.ok sc_x_law_drawn (fun vs H Q E h => ?len) (fun f cdv A outer s H vs Q E hr h => ?_)
  case len => obtain ⟨r, tot, most, rfl, _⟩ := h; rfl
  · obtain ⟨r, tot, most, rfl, row, h1, h2, h3, k⟩ := h
    refine ⟨_, (pss_cons (ps_if (PW.pt (pw_or (pt_cmpR (eqK (K := K) rfl hr.units) (pv 1) pe_int (nomark _)) (pw_or1 (pt_cmpR (eqK (K := K) rfl hr.units) (pe_g (ok_x_law_next (K := K) T) (hr.mono (by decide)) pass0 (pa_cons (pv 0) (pa_cons pe_int pa_nil))) pe_int (nomark _))))) (pss_cons (ps_set (i := 3) sc_x_law_drawn.nd rfl (Or.inl rfl) (pe_g (ok_x_law_word (K := K) T) (hr.mono (by decide)) pass0 (pa_cons (pv 0) pa_nil)))
    (pss_one (ps_ret (pe_tup (pa_cons (pe_tup (pa_cons pe_str (pa_cons (pv 3) pa_nil))) (pa_cons (pe_op (addK (K := K) rfl) (pv 1) (pe_callB (lenK (K := K) rfl) rfl T.n_len (by decide +kernel) (pa_cons (pv 3) pa_nil))) pa_nil))))))
    pss_nil)
    (pss_cons (ps_set (i := 4) sc_x_law_drawn.nd rfl (Or.inl rfl) (pe_g (ok_x_law_next (K := K) T) (hr.mono (by decide)) pass0 (pa_cons (pv 0) (pa_cons (pv 1) pa_nil))))
    (pss_cons (ps_set (i := 5) sc_x_law_drawn.nd rfl (Or.inl rfl) (pe_op (addK (K := K) rfl) (pv 4) (pe_g (ok_x_law_next (K := K) T) (hr.mono (by decide)) pass0 (pa_cons (pv 0) (pa_cons (pe_callB (cMin2 rfl) rfl T.n_min (by decide +kernel) (pa_cons (pe_op op_sub (pv 1) (pv 4)) (pa_cons pe_int pa_nil))) pa_nil)))))
    (pss_cons (ps_set (i := 6) sc_x_law_drawn.nd rfl (Or.inl rfl) (pe_op (addK (K := K) rfl) pe_int (pe_g (ok_x_law_next (K := K) T) (hr.mono (by decide)) pass0 (pa_cons (pv 0) (pa_cons (pv 2) pa_nil)))))
    (pss_one (ps_ret (pe_tup (pa_cons (pe_tup (pa_cons pe_str (pa_cons (pv 4) (pa_cons (pv 5) (pa_cons (pv 6) pa_nil))))) (pa_cons (pe_op (addK (K := K) rfl) (pv 1) (pe_op oMul (pe_op (addK (K := K) rfl) (pe_op op_sub (pv 5) (pv 4)) pe_int) (pv 6))) pa_nil))))))))), ?_⟩
    refine rd_startE (show start N_x_law_drawn [.ref r, .int (tot : Nat), .int (most : Nat)] = [some (.ref r), some (.int (tot : Nat)), some (.int (most : Nat)), none, none, none, none] from rfl) ?_
    walk_at "rdS_Fa"
    refine rd_ifOr (fun Hc => Kp H Hc ∧ RowAt K Hc r) (fun Hc ⟨kc, rowc⟩ => ?_) (fun join => ?_)
    · walk_at "rd_Fa"
      refine rd_wordD rowc fun x H1 hx k1 row1 => ?_
      have wz : x.length ≤ sizeLine := str_small (Nat.le_trans hx.2.1 (by decide))
      walk_at "rd_Fa"
      intro q2 H2 S2 e2 _
      walk_at "rd_Fa"
      refine rd_len_str wz ?_
      walk_at "rd_Fa"
      intro q3 H3 S3 e3 _
      have hx2 := hx.2.1
      exact k q3 (.ref q2) (.wr x) H3 (kc.trans (k1.trans (Kp.same (S2.trans S3)))) (row1.mono (S2.trans S3)) (by rw [e3, Int.natCast_add]; rfl) (StepAt.wrN (S3 _ _ e2)) (hx.step (by decide)) (by show x.length ≤ _; omega) (okL1.wr hx)
    · walk_at "rd_Fa"
      refine rd_ite (fun h0 => join _ ⟨Kp.refl, row⟩) (fun h0 => ?_)
      walk_at "rd_Fa"
      refine rd_nextD row (by decide) (by decide) fun n H2 hn k2 row2 => ?_
      walk_at "rd_Fa"
      refine rd_ite (fun h2 => by have := join _ ⟨k2, row2⟩; rwa [if_pos rfl] at this) (fun h2 => ?_)
      clear join
      walk_at "rd_Fa"
      refine rd_nextD row2 (by omega) (by omega) fun fi H3 hfi k3 row3 => ?_
      walk_at "rd_Fa"
      rw [show (if (6 : Int) < ((tot : Nat) : Int) - (fi : Nat) then 6 else ((tot : Nat) : Int) - (fi : Nat)) = ((min 6 (tot - fi) : Nat) : Int) by split <;> omega]
      refine rd_nextD row3 (by omega) (by omega) fun la H4 hla k4 row4 => ?_
      walk_at "rd_Fa"
      refine rd_nextD row4 (by omega) (by omega) fun ti H5 hti k5 row5 => ?_
      walk_at "rd_Fa"
      rw [show ((fi : Nat) : Int) + (la : Nat) = ((fi + la : Nat) : Int) by omega, show (1 : Int) + (ti : Nat) = ((1 + ti : Nat) : Int) by omega]
      intro q6 H6 S6 e6 _
      walk_at "rd_Fa"
      have el : ((fi + la : Nat) : Int) - (fi : Nat) + 1 = ((fi + la - fi + 1 : Nat) : Int) := by omega
      rw [el]
      refine rd_mul_int (.inr ⟨by omega, by omega⟩) ?_
      rw [← Int.natCast_mul]
      walk_at "rd_Fa"
      intro q7 H7 S7 e7 _
      have hb : (fi + la - fi + 1) * (1 + ti) ≤ 6 * most := Nat.mul_le_mul (by omega) (by omega)
      exact k q7 (.ref q6) (.pa fi (fi + la) (1 + ti)) H7 (k2.trans (k3.trans (k4.trans (k5.trans (Kp.same (S6.trans S7)))))) (row5.mono (S6.trans S7)) (by rw [e7, Int.natCast_add]; rfl) (StepAt.paN (S7 _ _ e6)) ⟨by omega, by omega, by omega, by omega⟩ hb okL1.pa
end
section
variable {P : Program} {w : World} {K : PySem.W.Frag} {mg : Str → Option Value} {base : Heap} {CText CPart CEditor CDecoder CTextError CInvalidStep CInvalidOperation CDecodeError CNotationError CTooLong CInvalidPlace CInvalidLetter CContradiction CInvalidCount c_law p_law : Addr}
theorem ok_x_law_made (T : Txt K mg CText CPart CEditor CDecoder CTextError CInvalidStep CInvalidOperation CDecodeError CNotationError CTooLong CInvalidPlace CInvalidLetter CContradiction CInvalidCount c_law p_law) : GOk P w K mg base CX0 9 "_law_made" (sp_x_law_made K CText CPart) := by
  refine T.d_x_law_made.ok sc_x_law_made (fun vs H Q E h => ?len) (fun f cdv A outer s H vs Q E hr h => ?_)
  case len => obtain ⟨a, ms, ss, rfl, _⟩ := h; rfl
  · obtain ⟨a, ms, ss, rfl, hq, hs, ok, few, k⟩ := h
    refine ⟨_, (pss_one (ps_ret (pe_p (pe_c (pe_glob (v := .ref CEditor) rfl T.g_Editor rfl) (ok_Editor_replay (K := K) T) (hr.mono (by decide)) pass0 (pa_cons (pe_callTy (tupK (K := K) rfl) rfl T.n_tuple (by decide +kernel) (pa_cons (pv 0) pa_nil)) (pa_cons (pe_lst pa_nil) pa_nil))) T.cEditor (ok_Editor_present_text (K := K) T) (hr.mono (by decide)) pass0))), ?_⟩
    refine rd_startE (show start N_x_law_made [.ref a] = [some (.ref a)] from rfl) ?_
    walk_at "rd_Fa"
    refine rd_tupLS hq hs fun p H1 S1 t1 => ?_
    walk_at "rd_Fa"
    intro l2 H2 S2 e2 _
    walk_at "rd_Fa"
    refine rd_edRep0 (t1.kp (.same S2)) e2 ok few fun H3 e S3 _ ed => ?_
    refine rd_edPT ed fun b TB => ?_
    exact k b H3 (S1.trans (S2.trans S3)) TB
end
section
variable {P : Program} {w : World} {K : PySem.W.Frag} {mg : Str → Option Value} {base : Heap} {CText CPart CEditor CDecoder CTextError CInvalidStep CInvalidOperation CDecodeError CNotationError CTooLong CInvalidPlace CInvalidLetter CContradiction CInvalidCount c_law p_law : Addr}
theorem ok_x_law_some (T : Txt K mg CText CPart CEditor CDecoder CTextError CInvalidStep CInvalidOperation CDecodeError CNotationError CTooLong CInvalidPlace CInvalidLetter CContradiction CInvalidCount c_law p_law) : GOk P w K mg base CX0 5 "_law_some" (sp_x_law_some K) := by
  refine T.d_x_law_some.ok sc_x_law_some (fun vs H Q E h => ?len) (fun f cdv A outer s H vs Q E hr h => ?_)
  case len => obtain ⟨r, count, most, rfl, _⟩ := h; rfl
  · obtain ⟨r, count, most, rfl, row, h1, h2, h3, k⟩ := h
    refine ⟨_, (pss_cons (ps_set (i := 3) sc_x_law_some.nd rfl (Or.inl rfl) (pe_g (ok_x_law_word (K := K) T) (hr.mono (by decide)) pass0 (pa_cons (pv 0) pa_nil)))
    (pss_cons (ps_par (i := 4) (j := 5) rfl sc_x_law_some.nd rfl rfl (by decide) rfl rfl (pa_cons (pe_lst (pa_cons (pe_tup (pa_cons pe_str (pa_cons (pv 3) pa_nil))) pa_nil)) (pa_cons (pe_callB (lenK (K := K) rfl) rfl T.n_len (by decide +kernel) (pa_cons (pv 3) pa_nil)) pa_nil)) rfl)
    (pss_cons (ps_for PassesOwn.never rfl (pi_range1 rfl T.n_range (pa_cons (pe_g (ok_x_law_next (K := K) T) (hr.mono (by decide)) pass0 (pa_cons (pv 0) (pa_cons (pe_op (addK (K := K) rfl) (pv 1) pe_int) pa_nil))) pa_nil)) (pg_name (i := 6) sc_x_law_some.nd rfl (Or.inl rfl)) (pss_cons (ps_asg (pe_g (ok_x_law_drawn (K := K) T) (hr.mono (by decide)) pass0 (pa_cons (pv 0) (pa_cons (pv 5) (pa_cons (pv 2) pa_nil)))) (pg_tupK (K := K) (n := 2) rfl rfl (pgs_cons (pg_name (i := 7) sc_x_law_some.nd rfl (Or.inl rfl)) (pgs_cons (pg_name (i := 5) sc_x_law_some.nd rfl (Or.inl rfl)) pgs_nil))))
    (pss_one (ps_expr (pe_bmK (K := K) rfl PySem.F.plainAttrs_list PySem.F.slot_list_append PySem.F.type_list_append mt_append (pv 4) (pa_cons (pv 7) pa_nil))))))
    (pss_one (ps_ret (pv 4)))))), ?_⟩
    refine rd_startE (show start N_x_law_some [.ref r, .int (count : Nat), .int (most : Nat)] = [some (.ref r), some (.int (count : Nat)), some (.int (most : Nat)), none, none, none, none, none] from rfl) ?_
    walk_at "rd_Fa"
    refine rd_wordD row fun x H1 hx k1 row1 => ?_
    have wz : x.length ≤ sizeLine := str_small (Nat.le_trans hx.2.1 (by decide))
    walk_at "rd_Fa"
    intro q2 H2 S2 e2 _
    walk_at "rd_Fa"
    intro l H3 S3 e3 n3
    walk_at "rd_Fa"
    refine rd_len_str wz ?_
    walk_at "rd_Fa"
    have row2 := row1.mono S2
    have nl : r ≠ l := row2.ne n3
    have hx2 := hx.2.1
    have hx1 := hx.1
    refine rd_nextD (row2.mono S3) (by omega) (by omega) fun n H4 hn k4 row4 => ?_
    walk_at "rd_Fa"
    refine ⟨_, rfl, by omega, by omega, for_range (n := n) (fun i σ H' => ∃ v6 v7 ms ss, σ = [some (.ref r), some (.int (count : Nat)), some (.int (most : Nat)), some (.str x), some (.ref l), some (.int (sz ss : Nat)), v6, v7] ∧ Kp H2 H' ∧ RowAt K H' r ∧ H' l = some (.lst ms) ∧ StepsAt K H' ms ss ∧ okFrom 0 ss ∧ 1 ≤ sz ss ∧ ss.length = i + 1 ∧ sz ss ≤ (i + 1) * (6 * most) ∧ okLs ss)
      ⟨_, _, [.ref q2], [.wr x], by rfl, (Kp.same S3).trans k4, row4, k4 _ _ (nr_refs fun v hv => by rw [List.mem_singleton.mp hv]; rfl) e3, (StepsAt.one (StepAt.wrN (S3 _ _ e2))).kp k4, ⟨hx.step (by decide), by show 0 + x.length ≤ _; omega, trivial⟩, by show 1 ≤ x.length + 0; omega, rfl, by show x.length + 0 ≤ _; omega, okLs.snoc okLs.nil (okL1.wr hx)⟩ ?_ ?_⟩
    · rintro i σ H5 hi ⟨v6, v7, ms, ss, rfl, k5, row5, e5, st5, ok, z1, len, zb, L⟩
      have hB : (i + 1) * (6 * most) ≤ 21 * (6 * 1000000000) := Nat.mul_le_mul (by omega) (by omega)
      walk_at "rd_Fa"
      refine rd_drawn row5 (by omega) (by omega) (by omega) (by omega) fun p v s H6 k6 row6 e6 sa o1 le lt => ?_
      refine rd_gtup (SqT.of e6) rfl ?_
      walk_at "rd_Fa"
      have e7 := k6 _ _ (nr_refs st5.refs) e5
      refine rd_tyL (SqL.of e7) _ ?_
      walk_at "rd_Fa"
      refine rd_append e7 (by rw [sizeLine_eq, st5.1]; omega) ?_
      walk_at "rd_Fa"
      rw [Int.toNat_natCast] at o1
      have k7 : Kp H2 (upd H6 l (.lst (ms ++ [v]))) := Kp.mut (k5.trans k6) n3
      exact ⟨_, _, ms ++ [v], ss ++ [s], by rw [sz_snoc, Int.natCast_add]; rfl, k7, row2.via k7 row6 (upd_ne nl), upd_same, ((st5.kp k6).snoc sa).updL e7, ok_snoc ok o1 (by omega), by rw [sz_snoc]; omega, by rw [List.length_append, List.length_singleton, len], by rw [sz_snoc, Nat.succ_mul (i + 1)]; omega, L.snoc lt⟩
    · rintro σ H5 ⟨v6, v7, ms, ss, rfl, k5, row5, e5, st5, ok, z1, len, zb, L⟩
      walk_at "rd_Fa"
      exact k l ms ss H5 (k1.trans ((Kp.same S2).trans k5)) row5 e5 st5 ok z1 (by omega) (Nat.le_trans zb (Nat.mul_le_mul_right _ (by omega))) L
end
section
variable {P : Program} {w : World} {K : PySem.W.Frag} {mg : Str → Option Value} {base : Heap} {CText CPart CEditor CDecoder CTextError CInvalidStep CInvalidOperation CDecodeError CNotationError CTooLong CInvalidPlace CInvalidLetter CContradiction CInvalidCount c_law p_law : Addr}
theorem ok_x_law_groups (T : Txt K mg CText CPart CEditor CDecoder CTextError CInvalidStep CInvalidOperation CDecodeError CNotationError CTooLong CInvalidPlace CInvalidLetter CContradiction CInvalidCount c_law p_law) : GOk P w K mg base CX0 1 "_law_groups" (sp_x_law_groups ) := by
  refine T.d_x_law_groups.ok sc_x_law_groups (fun vs H Q E h => ?len) (fun f cdv A outer s H vs Q E hr h => ?_)
  case len => obtain ⟨n, rfl, _⟩ := h; rfl
  · obtain ⟨n, rfl, hn, k⟩ := h
    refine ⟨_, (pss_cons (ps_set (i := 1) sc_x_law_groups.nd rfl (Or.inl rfl) (pe_lst pa_nil))
    (pss_cons (ps_while PassesOwn.never (pt_cmpR op_gt (pv 0) pe_int (nomark _)) (pss_cons (ps_expr (pe_bmK (K := K) rfl PySem.F.plainAttrs_list PySem.F.slot_list_append PySem.F.type_list_append mt_append (pv 1) (pa_cons (pe_op (addK (K := K) rfl) pe_int (pe_op op_mod (pe_callTy cInt rfl T.n_int (by decide +kernel) (pa_cons (pv 0) pa_nil)) pe_int)) pa_nil)))
    (pss_one (ps_set (i := 0) sc_x_law_groups.nd rfl (Or.inl rfl) (pe_op op_fdiv (pv 0) pe_int)))))
    (pss_one (ps_ret (pe_op (addK (K := K) rfl) (pv 1) (pe_lst (pa_cons (pv 0) pa_nil))))))), ?_⟩
    refine rd_startE (show start N_x_law_groups [.int (n : Nat)] = [some (.int (n : Nat)), none] from rfl) ?_
    walk_at "rd_Fa"
    intro l H1 S1 e1 n1
    walk_at "rd_Fa"
    have n9 : (grpN n).length ≤ 9 := grpN_len 9 n (by decide) (Nat.lt_of_le_of_lt hn (by decide))
    refine rd_while (fun m σ H' => ∃ (a : Nat) (L : List Nat), σ = [some (.int (a : Nat)), some (.ref l)] ∧ Same H H' ∧ H' l = some (.lst (natV L)) ∧ grpN n = L ++ grpN a ∧ m = a) ⟨n, n, [], rfl, S1, e1, rfl, rfl⟩ ?_
    rintro m σ H' ⟨a, L, rfl, S, e, hg, rfl⟩
    have hL : L.length ≤ 9 := by rw [hg, List.length_append] at n9; omega
    walk_at "rd_Fa"
    refine rd_ite (fun h3 => ⟨_, fun σ' H'' z => z, ?_⟩) (fun h3 => ?_)
    · walk_at "rd_Fa"
      refine rd_tyL (SqL.of e) _ ?_
      walk_at "rd_Fa"
      refine rd_I (by decide) ?_
      walk_at "rd_Fa"
      refine rd_append e (by rw [natV_len, sizeLine_eq]; omega) ?_
      walk_at "rd_Fa"
      refine rd_I ⟨by decide, by decide⟩ ?_
      refine ⟨m / 128, by omega, m / 128, L ++ [128 + m % 128], ?_, Same.mut S n1, ?_, ?_, rfl⟩
      · rw [show (((m / 128 : Nat)) : Int) = (m : Nat) / 128 by omega]; rfl
      · rw [upd_same, natV_snoc, show (((128 + m % 128 : Nat)) : Int) = 128 + (m : Nat) % 128 by omega]
      · rw [hg, grpN_ge (by omega)]; simp
    · walk_at "rd_Fa"
      intro p2 H2 S2 e2 _
      refine rd_addLk (S2 _ _ e) e2 (by rw [natV_len, sizeLine_eq]; show _ + 1 ≤ _; omega) fun p H3 S3 n3 e3 => ?_
      refine k _ _ ((S.trans S2).trans S3) (same_back (S.trans S2) n3) ?_
      rw [e3, hg, grpN_lt (by omega), natV_snoc]
end
section
variable {P : Program} {w : World} {K : PySem.W.Frag} {mg : Str → Option Value} {base : Heap} {CText CPart CEditor CDecoder CTextError CInvalidStep CInvalidOperation CDecodeError CNotationError CTooLong CInvalidPlace CInvalidLetter CContradiction CInvalidCount c_law p_law : Addr}
theorem ok_x_law_closed (T : Txt K mg CText CPart CEditor CDecoder CTextError CInvalidStep CInvalidOperation CDecodeError CNotationError CTooLong CInvalidPlace CInvalidLetter CContradiction CInvalidCount c_law p_law) : GOk P w K mg base CX0 1 "_law_closed" (sp_x_law_closed ) := by
  refine T.d_x_law_closed.ok sc_x_law_closed (fun vs H Q E h => ?len) (fun f cdv A outer s H vs Q E hr h => ?_)
  case len => obtain ⟨l, L, rfl, _⟩ := h; rfl
  · obtain ⟨l, L, rfl, el, hl, k⟩ := h
    refine ⟨_, (pss_cons (ps_set (i := 1) sc_x_law_closed.nd rfl (Or.inl rfl) pe_int)
    (pss_cons (ps_for PassesOwn.never rfl (pi_listK (K := K) rfl (pv 0)) (pg_name (i := 2) sc_x_law_closed.nd rfl (Or.inl rfl)) (pss_one (ps_set (i := 1) sc_x_law_closed.nd rfl (Or.inl rfl) (pe_op op_mod (pe_callTy cInt rfl T.n_int (by decide +kernel) (pa_cons (pe_op (addK (K := K) rfl) (pe_op oMul (pv 1) pe_int) (pv 2)) pa_nil)) pe_int))))
    (pss_one (ps_ret (pe_op (addK (K := K) rfl) (pv 0) (pe_lst (pa_cons (pv 1) pa_nil))))))), ?_⟩
    refine rd_startE (show start N_x_law_closed [.ref l] = [some (.ref l), none, none] from rfl) ?_
    walk_at "rd_Fa"
    refine for_list (xs := natV L) (fun i σ H' => ∃ v2, σ = [some (.ref l), some (.int (ckS (L.take i) : Nat)), v2] ∧ H' = H) ⟨_, rfl, rfl⟩ (fun i σ H' _ z => by obtain ⟨_, _, rfl⟩ := z; exact SqL.of el) ?_ ?_
    · rintro i v σ H' hv ⟨v2, rfl, rfl⟩
      unfold natV at hv
      rw [List.getElem?_map] at hv
      obtain ⟨c, hc, rfl⟩ := Option.map_eq_some_iff.mp hv
      walk_at "rd_Fa"
      refine rd_mul_int (.inr (by decide)) ?_
      walk_at "rd_Fa"
      refine rd_I (by decide) ?_
      walk_at "rd_Fa"
      have e : ckS (L.take (i + 1)) = (ckS (L.take i) * 7 + c) % 227 := by rw [take_snoc hc, ckS_snoc]
      refine ⟨some (.int (c : Nat)), ?_, rfl⟩
      rw [e, show ((((ckS (L.take i) * 7 + c) % 227 : Nat)) : Int) = ((ckS (L.take i) : Nat) * 7 + (c : Nat)) % 227 by omega]
      rfl
    · rintro σ H' ⟨v2, rfl, rfl⟩
      walk_at "rd_Fa"
      rw [natV_len, List.take_length]
      intro p2 H2 S2 e2 _
      refine rd_addLk (S2 _ _ el) e2 (by rw [natV_len, sizeLine_eq]; show _ + 1 ≤ _; omega) fun p H3 S3 n3 e3 => ?_
      refine k _ _ (S2.trans S3) (same_back S2 n3) ?_
      rw [e3, natV_snoc]
end
section
variable {P : Program} {w : World} {K : PySem.W.Frag} {mg : Str → Option Value} {base : Heap} {CText CPart CEditor CDecoder CTextError CInvalidStep CInvalidOperation CDecodeError CNotationError CTooLong CInvalidPlace CInvalidLetter CContradiction CInvalidCount c_law p_law : Addr}
theorem ok_x_law_values (T : Txt K mg CText CPart CEditor CDecoder CTextError CInvalidStep CInvalidOperation CDecodeError CNotationError CTooLong CInvalidPlace CInvalidLetter CContradiction CInvalidCount c_law p_law) : GOk P w K mg base CX0 2 "_law_values" (sp_x_law_values K) := by
  refine T.d_x_law_values.ok sc_x_law_values (fun vs H Q E h => ?len) (fun f cdv A outer s H vs Q E hr h => ?_)
  case len => obtain ⟨l, ms, ss, rfl, _⟩ := h; rfl
  · obtain ⟨lq, ms, ss, rfl, elq, hst, ok, few, k⟩ := h
    refine ⟨_, (pss_cons (ps_set (i := 1) sc_x_law_values.nd rfl (Or.inl rfl) (pe_lst (pa_cons pe_int (pa_cons (pe_callB (lenK (K := K) rfl) rfl T.n_len (by decide +kernel) (pa_cons (pv 0) pa_nil)) pa_nil))))
    (pss_cons (ps_for PassesOwn.never rfl (pi_listK (K := K) rfl (pv 0)) (pg_name (i := 2) sc_x_law_values.nd rfl (Or.inl rfl)) (pss_one (ps_if (pt_cmpR (eqK (K := K) rfl hr.units) (pe_ix (ixK (K := K) rfl) (pv 2) pe_int (fun _ _ => rfl)) pe_str (nomark _)) (pss_one (ps_set (i := 1) sc_x_law_values.nd rfl (Or.inl rfl) (pe_op (addK (K := K) rfl) (pe_op (addK (K := K) rfl) (pv 1) (pe_lst (pa_cons pe_int (pa_cons (pe_callB (lenK (K := K) rfl) rfl T.n_len (by decide +kernel) (pa_cons (pe_ix (ixK (K := K) rfl) (pv 2) pe_int (fun _ _ => rfl)) pa_nil)) pa_nil)))) (pe_lc (own := [("_law_c", 3)]) rfl sc_x_law_values.nd (pi_str (pe_ix (ixK (K := K) rfl) (pv 2) pe_int (fun _ _ => rfl))) (blkOk_by (own := [("_law_c", 3)]) (N := N_x_law_values) (sc := (defScope s_x_law_values)) (by first | decide +kernel | rfl)) (fun _ _ _ _ _ => (pg_name (i := 3) sc_x_law_values.nd rfl (Or.inl rfl))) (fun _ _ _ _ _ => pts_nil) (fun _ _ _ _ _ => (pe_bmK (K := K) rfl PySem.F.plainAttrs_str PySem.F.slot_str_index PySem.F.type_str_index mt_sindexA pe_str (pa_cons (pv 3) pa_nil)))))))
    (pss_cons (ps_expr (pe_bmK (K := K) rfl PySem.F.plainAttrs_list PySem.F.slot_list_append PySem.F.type_list_append mt_append (pv 1) (pa_cons pe_int pa_nil)))
    (pss_one (ps_for PassesOwn.never rfl (pi_tupK (K := K) rfl (pe_slice (slTA (K := K) rfl) (pv 2) (po_some pe_int) po_none)) (pg_name (i := 4) sc_x_law_values.nd rfl (Or.inl rfl)) (pss_one (ps_set (i := 1) sc_x_law_values.nd rfl (Or.inl rfl) (pe_op (addK (K := K) rfl) (pv 1) (pe_g (ok_x_law_groups (K := K) T) (hr.mono (by decide)) pass0 (pa_cons (pv 4) pa_nil)))))))))))
    (pss_one (ps_ret (pv 1))))), ?_⟩
    refine rd_startE (show start N_x_law_values [.ref lq] = [some (.ref lq), none, none, none, none] from rfl) ?_
    have fl : ∀ i, (((ss.take i).map encS).flatten).length ≤ 1200 := fun i => by
      have o := ok_take ok i
      have := encF_len o (by decide)
      rw [List.length_take] at this
      omega
    walk_at "rd_Fa"
    refine rd_lenL elq ?_
    rw [hst.1]
    walk_at "rd_Fa"
    intro l H1 S1 e1 n1
    walk_at "rd_Fa"
    refine ⟨⟨ms, SqL.of (S1 _ _ elq)⟩, for_list (xs := ms) (fun i σ H' => ∃ l' v2 v3 v4, σ = [some (.ref lq), some (.ref l'), v2, v3, v4] ∧ Same H H' ∧ H l' = none ∧ H' l' = some (.lst (natV (80 :: ss.length :: ((ss.take i).map encS).flatten)))) ⟨l, _, _, _, rfl, S1, n1, e1⟩ (fun i σ H' _ z => ?_) ?_ ?_⟩
    · obtain ⟨_, _, _, _, _, S, _⟩ := z
      exact SqL.of (S _ _ elq)
    · rintro i v σ H' hv ⟨l', v2, v3, v4, rfl, S, nl, e⟩
      have hi : i < ss.length := by rw [← hst.1]; exact (List.getElem?_eq_some_iff.mp hv).1
      have hs := List.getElem?_eq_getElem hi
      have oks := ok_at ok hs
      generalize ss[i] = s at hs oks
      obtain ⟨v', hv', b, rfl, hq⟩ := hst.2 i s hs
      rw [hv] at hv'
      cases hv'
      have hq := Same.tup S hq
      have fi := fl i
      have ftk : ((ss.take (i + 1)).map encS).flatten = ((ss.take i).map encS).flatten ++ encS s := by rw [take_snoc hs]; simp
      cases s with
      | wr w =>
        have hw : ∀ c ∈ tl w, 97 ≤ c ∧ c ≤ 122 := oks.1.2.2
        have hl : (tl w).length ≤ 20 := by rw [← len_tl]; exact oks.1.2.1
        walk_at "rd_Fa"
        refine rd_ixT (v := .str "write") ?_ hq rfl
        walk_at "rd_Fa"
        refine rd_ixT (v := .str w) ?_ hq rfl
        walk_at "rd_Fa"
        refine rd_len_str (str_small (by rw [len_tl]; exact hl)) ?_
        walk_at "rd_Fa"
        intro p2 H2 S2 e2 _
        refine rd_addLk (S2 _ _ e) e2 (by rw [natV_len, sizeLine_eq]; show _ + 1 + 1 + 2 ≤ _; omega) fun p3 H3 S3 n3 e3 => ?_
        have S23 := S2.trans S3
        have hq3 := Same.tup S23 hq
        walk_at "rd_Fa"
        refine rd_ixT (v := .str w) ?_ hq3 rfl
        walk_at "rd_Fa"
        refine ⟨w, rfl, fun D hD => lc_fun plain_str hD (by rw [sizeLine_eq]; omega) (fun _ => rfl) (fun i => .int (((tl w)[i]?.getD 0 - 97 : Nat) : Nat)) (fun i Ha Qa hi Sa q => ?_) fun Hd Sd ed => ?_⟩
        · walk_at "rd_Fa"
          have hc := hw _ (List.getElem_mem hi)
          rw [List.getElem?_eq_getElem hi] at q ⊢
          refine ⟨rfl, ?_⟩
          walk_at "rd_Fa"
          refine rd_sindexLow hc.1 hc.2 ?_
          exact q _ (Same.refl _)
        · refine rd_addLk (Sd _ _ e3) ed (by rw [List.length_append, natV_len, List.length_map, List.length_range, sizeLine_eq]; show _ + 1 + 1 + 2 + _ ≤ _; omega) fun p4 H4 S4 n4 e4 => ?_
          have SS := (S23.trans Sd).trans S4
          refine ⟨p4, _, _, _, rfl, S.trans SS, same_back (S.trans (S23.trans Sd)) n4, ?_⟩
          rw [e4, List.append_assoc, show [V.int 0, V.int (w.length : Nat)] ++ (List.range (tl w).length).map (fun i => V.int (((tl w)[i]?.getD 0 - 97 : Nat) : Nat)) = natV (encS (.wr w)) from encW_natV, natV_app8, ftk]
          rfl
      | pa f l'' t =>
        walk_at "rd_Fa"
        refine rd_ixT (v := .str "paste") ?_ hq rfl
        walk_at "rd_Fa"
        refine rd_tyL (SqL.of e) _ ?_
        walk_at "rd_Fa"
        refine rd_append e (by rw [natV_len, sizeLine_eq]; show _ + 1 + 1 < _; omega) ?_
        walk_at "rd_Fa"
        have S2 := Same.mut (o := .lst (natV (80 :: ss.length :: ((ss.take i).map encS).flatten) ++ [V.int 1])) S nl
        have hq2 := sqT_butL hq e (But.at (o := .lst (natV (80 :: ss.length :: ((ss.take i).map encS).flatten) ++ [V.int 1])) But.refl)
        have e2 : upd H' l' (.lst (natV (80 :: ss.length :: ((ss.take i).map encS).flatten) ++ [V.int 1])) l' = some (.lst (natV (80 :: ss.length :: (((ss.take i).map encS).flatten ++ [1])))) := by
          rw [upd_same, show [V.int 1] = natV [1] from rfl, natV_app8]; rfl
        revert S2 hq2 e2
        generalize upd H' l' _ = H2
        intro S2 hq2 e2
        refine rd_slA1b hq2 (by show 3 ≤ 1000; decide) fun p3 H3 S3 hq3 => ?_
        walk_at "rd_Fa"
        have nb : ∀ n ∈ [f, l'', t], n ≤ 1000000000000000000 := fun n hn => by
          obtain ⟨h1, h2, h3, h4⟩ := oks.1
          simp only [List.mem_cons, List.not_mem_nil, or_false] at hn
          rcases hn with rfl | rfl | rfl <;> omega
        have fb : ∀ j, ((([f, l'', t].take j).map grpN).flatten).length ≤ 27 := fun j => by
          have g9 : ∀ n, n ≤ 1000000000000000000 → (grpN n).length ≤ 9 := fun n hn => grpN_len 9 n (by decide) (Nat.lt_of_le_of_lt hn (by decide))
          have g1 := g9 f (nb f (by simp))
          have g2 := g9 l'' (nb l'' (by simp))
          have g3 := g9 t (nb t (by simp))
          match j with
          | 0 => simp
          | 1 => simp; omega
          | 2 => simp; omega
          | j + 3 => simp; omega
        refine ⟨⟨_, hq3⟩, for_tup (xs := [.int (f : Nat), .int (l'' : Nat), .int (t : Nat)]) (fun j σ H'' => ∃ l4 v3 v4, σ = [some (.ref lq), some (.ref l4), some (.ref b), v3, v4] ∧ Same H3 H'' ∧ H l4 = none ∧ H'' l4 = some (.lst (natV (80 :: ss.length :: (((ss.take i).map encS).flatten ++ 1 :: (([f, l'', t].take j).map grpN).flatten)))))
          ⟨_, _, _, rfl, Same.refl _, nl, S3 _ _ e2⟩ (fun j σ H'' _ z => ?_) ?_ ?_⟩
        · obtain ⟨_, _, _, _, S4, _, _⟩ := z
          exact Same.tup S4 hq3
        · rintro j v σ H4 hv4 ⟨l4, v3, v4, rfl, S4, n4, e4⟩
          have hv5 : ([f, l'', t].map fun n : Nat => V.int (n : Nat))[j]? = some v := hv4
          rw [List.getElem?_map] at hv5
          obtain ⟨n, hn, rfl⟩ := Option.map_eq_some_iff.mp hv5
          have fj := fb j
          have g1 := grpN_len 9 n (by decide) (Nat.lt_of_le_of_lt (nb n (List.mem_of_getElem? hn)) (by decide))
          walk_at "rd_Fa"
          refine rd_groups (nb n (List.mem_of_getElem? hn)) fun p5 H5 S5 n5 e5 => ?_
          refine rd_addLk (S5 _ _ e4) e5 (by rw [natV_len, natV_len, sizeLine_eq]; simp only [List.length_cons, List.length_append]; omega) fun p6 H6 S6 n6 e6 => ?_
          refine ⟨p6, _, _, rfl, (S4.trans S5).trans S6, same_back ((S2.trans S3).trans (S4.trans S5)) n6, ?_⟩
          rw [e6, natV_app8, take_sn hn]
          simp
        · rintro σ H4 ⟨l4, v3, v4, rfl, S4, n4, e4⟩
          refine ⟨l4, _, _, _, rfl, (S2.trans S3).trans S4, n4, ?_⟩
          rw [e4, ftk]
          simp [encS]
    · rintro σ H' ⟨l', v2, v3, v4, rfl, S, nl, e⟩
      walk_at "rd_Fa"
      refine k _ _ S nl ?_
      rw [e, hst.1, List.take_length]; rfl
end
section
variable {P : Program} {w : World} {K : PySem.W.Frag} {mg : Str → Option Value} {base : Heap} {CText CPart CEditor CDecoder CTextError CInvalidStep CInvalidOperation CDecodeError CNotationError CTooLong CInvalidPlace CInvalidLetter CContradiction CInvalidCount c_law p_law : Addr}
theorem ok_x_law_take (T : Txt K mg CText CPart CEditor CDecoder CTextError CInvalidStep CInvalidOperation CDecodeError CNotationError CTooLong CInvalidPlace CInvalidLetter CContradiction CInvalidCount c_law p_law) : GOk P w K mg base CX0 1 "_law_take" (sp_x_law_take ) := by
  refine T.d_x_law_take.ok sc_x_law_take (fun vs H Q E h => ?len) (fun f cdv A outer s H vs Q E hr h => ?_)
  case len => obtain ⟨l, b, o, lo, hi, rfl, _⟩ := h; rfl
  · obtain ⟨l, b, o, lo, hi, rfl, el, h8, k⟩ := h
    refine ⟨_, (pss_cons (ps_if (PW.pt (pw_or (pt_cmpR op_ge (pv 1) (pe_callB (lenK (K := K) rfl) rfl T.n_len (by decide +kernel) (pa_cons (pv 0) pa_nil)) (nomark _)) (pw_or1 (pt_not (pt_chain op_le op_le (pv 2) (pe_ix (ixK (K := K) rfl) (pv 0) (pv 1) (fun _ _ => rfl)) (pv 3)))))) (pss_one (ps_ret (pe_lst (pa_cons (pe_tup (pa_cons pe_str (pa_cons pe_str (pa_cons (pe_callB (cMin2 rfl) rfl T.n_min (by decide +kernel) (pa_cons (pv 1) (pa_cons (pe_callB (lenK (K := K) rfl) rfl T.n_len (by decide +kernel) (pa_cons (pv 0) pa_nil)) pa_nil))) pa_nil)))) pa_nil))))
    pss_nil)
    (pss_one (ps_ret (pe_tup (pa_cons (pe_ix (ixK (K := K) rfl) (pv 0) (pv 1) (fun _ _ => rfl)) (pa_cons (pe_op (addK (K := K) rfl) (pv 1) pe_int) pa_nil)))))), ?_⟩
    refine rd_startE (show start N_x_law_take [.ref l, .int (o : Nat), .int (lo : Nat), .int (hi : Nat)] = [some (.ref l), some (.int (o : Nat)), some (.int (lo : Nat)), some (.int (hi : Nat))] from rfl) ?_
    have h81 := h8.1
    have bad : tkC b o lo hi = .er (min o b.length) → ∀ p1 H1 p2 H2, Same H H1 → H1 p1 = some (.tup [.str "error", .str "DecodeError", .int ((min o b.length : Nat) : Nat)]) → Same H1 H2 → H2 p2 = some (.lst [.ref p1]) → Q (.ref p2) H2 := fun hr p1 H1 p2 H2 S1 e1 S2 e2 => k _ _ (S1.trans S2) (by rw [hr]; exact ⟨p2, p1, rfl, e2, S2 _ _ e1⟩)
    walk_at "rd_Fa"
    refine rd_ite (fun h1 => ?_) (fun h1 => ?_)
    · walk_at "rd_Fa"
      intro p1 H1 S1 e1 _
      walk_at "rd_Fa"
      intro p2 H2 S2 e2 _
      refine bad ?_ p1 H1 p2 H2 S1 (by rw [e1, natMin_int]) S2 e2
      unfold tkC
      rw [List.getElem?_eq_none (by omega)]
    · obtain ⟨v, hv⟩ : ∃ v, b[o]? = some v := ⟨_, List.getElem?_eq_getElem (by omega)⟩
      have hl := (List.getElem?_eq_some_iff.mp hv).1
      have hr : tkC b o lo hi = if lo ≤ v ∧ v ≤ hi then .ok v (o + 1) else .er o := by unfold tkC; rw [hv]
      have hmin : min o b.length = o := by omega
      walk_at "rd_Fa"
      rw [show b[((o : Nat) : Int).toNat]?.getD 0 = v by rw [Int.toNat_natCast, hv]; rfl]
      refine rd_ite (fun h2 => ?_) (fun h2 => ?_)
      · by_cases h3 : v ≤ hi
        · walk_at "rd_Fa"
          rw [show b[((o : Nat) : Int).toNat]?.getD 0 = v by rw [Int.toNat_natCast, hv]; rfl]
          intro p1 H1 S1 e1 _
          refine k _ _ S1 ?_
          rw [hr, if_pos ⟨by omega, by omega⟩]
          exact ⟨p1, rfl, e1⟩
        · walk_at "rd_Fa"
          intro p1 H1 S1 e1 _
          walk_at "rd_Fa"
          intro p2 H2 S2 e2 _
          refine bad ?_ p1 H1 p2 H2 S1 (by rw [e1, natMin_int]) S2 e2
          rw [hr, if_neg (by omega), hmin]
      · walk_at "rd_Fa"
        intro p1 H1 S1 e1 _
        walk_at "rd_Fa"
        intro p2 H2 S2 e2 _
        refine bad ?_ p1 H1 p2 H2 S1 (by rw [e1, natMin_int]) S2 e2
        rw [hr, if_neg (by omega), hmin]
end
section
variable {P : Program} {w : World} {K : PySem.W.Frag} {mg : Str → Option Value} {base : Heap} {CText CPart CEditor CDecoder CTextError CInvalidStep CInvalidOperation CDecodeError CNotationError CTooLong CInvalidPlace CInvalidLetter CContradiction CInvalidCount c_law p_law : Addr}
theorem ok_x_law_number (T : Txt K mg CText CPart CEditor CDecoder CTextError CInvalidStep CInvalidOperation CDecodeError CNotationError CTooLong CInvalidPlace CInvalidLetter CContradiction CInvalidCount c_law p_law) : GOk P w K mg base CX0 1 "_law_number" (sp_x_law_number ) := by
  refine T.d_x_law_number.ok sc_x_law_number (fun vs H Q E h => ?len) (fun f cdv A outer s H vs Q E hr h => ?_)
  case len => obtain ⟨l, b, o, lo, hi, rfl, _⟩ := h; rfl
  · obtain ⟨l, b, o, lo, hi, rfl, el, h8, hob, k⟩ := h
    refine ⟨_, (pss_cons (ps_par3 (i := 4) (j := 5) (l := 6) rfl sc_x_law_number.nd rfl rfl rfl (by decide) (by decide) (by decide) rfl rfl rfl (pa_cons pe_int (pa_cons pe_int (pa_cons (pv 1) pa_nil))) rfl)
    (pss_cons (ps_while PassesOwn.never (pt_cmpR op_lt (pv 6) (pe_callB (lenK (K := K) rfl) rfl T.n_len (by decide +kernel) (pa_cons (pv 0) pa_nil)) (nomark _)) (pss_cons (ps_set (i := 4) sc_x_law_number.nd rfl (Or.inl rfl) (pe_op (addK (K := K) rfl) (pv 4) (pe_op op_mul (pe_op op_mod (pe_callTy cInt rfl T.n_int (by decide +kernel) (pa_cons (pe_ix (ixK (K := K) rfl) (pv 0) (pv 6) (fun _ _ => rfl)) pa_nil)) pe_int) (pv 5))))
    (pss_cons (ps_if (PW.pt (pw_and (pt_cmpR (eqK (K := K) rfl hr.units) (pe_ix (ixK (K := K) rfl) (pv 0) (pv 6) (fun _ _ => rfl)) pe_int (nomark _)) (pw_and1 (pt_cmpR op_gt (pv 5) pe_int (nomark _))))) (pss_one (ps_ret (pe_lst (pa_cons (pe_tup (pa_cons pe_str (pa_cons pe_str (pa_cons (pv 6) pa_nil)))) pa_nil))))
    pss_nil)
    (pss_cons (ps_if (pt_cmpR op_lt (pe_ix (ixK (K := K) rfl) (pv 0) (pv 6) (fun _ _ => rfl)) pe_int (nomark _)) (pss_one (ps_ret (pe_ifExp (pt_chain op_le op_le (pv 2) (pv 4) (pv 3)) (pe_tup (pa_cons (pv 4) (pa_cons (pe_op (addK (K := K) rfl) (pv 6) pe_int) pa_nil))) (pe_lst (pa_cons (pe_tup (pa_cons pe_str (pa_cons pe_str (pa_cons (pv 1) pa_nil)))) pa_nil)))))
    pss_nil)
    (pss_one (ps_par (i := 5) (j := 6) rfl sc_x_law_number.nd rfl rfl (by decide) rfl rfl (pa_cons (pe_op oMul (pv 5) pe_int) (pa_cons (pe_op (addK (K := K) rfl) (pv 6) pe_int) pa_nil)) rfl))))))
    (pss_one (ps_ret (pe_lst (pa_cons (pe_tup (pa_cons pe_str (pa_cons pe_str (pa_cons (pe_callB (lenK (K := K) rfl) rfl T.n_len (by decide +kernel) (pa_cons (pv 0) pa_nil)) pa_nil)))) pa_nil)))))), ?_⟩
    refine rd_startE (show start N_x_law_number [.ref l, .int (o : Nat), .int (lo : Nat), .int ((hi : Nat) - 1)] = [some (.ref l), some (.int (o : Nat)), some (.int (lo : Nat)), some (.int ((hi : Nat) - 1)), none, none, none] from rfl) ?_
    have h81 := h8.1
    walk_at "rd_Fa"
    refine rd_par3 ?_
    walk_at "rd_Fa"
    refine ⟨_, _, _, rfl, ?_⟩
    walk_at "rd_Fa"
    refine rd_while (fun m σ H' => ∃ (o' acc fac : Nat), σ = [some (.ref l), some (.int (o : Nat)), some (.int (lo : Nat)), some (.int ((hi : Nat) - 1)), some (.int (acc : Nat)), some (.int (fac : Nat)), some (.int (o' : Nat))] ∧ Same H H' ∧ o' ≤ b.length ∧ m = b.length - o' ∧ nmL b (b.length - o) o 0 1 = nmL b (b.length - o') o' acc fac)
      ⟨b.length - o, o, 0, 1, rfl, Same.refl _, hob, rfl, rfl⟩ ?_
    rintro m σ H' ⟨o', acc, fac, rfl, S, ho', rfl, hR⟩
    have el := S _ _ el
    walk_at "rd_Fa"
    refine rd_ite (fun h3 => ⟨_, fun σ' H'' z => z, ?_⟩) (fun h3 => ?_)
    · obtain ⟨v, hv⟩ : ∃ v, b[o']? = some v := ⟨_, List.getElem?_eq_getElem (by omega)⟩
      have hl := (List.getElem?_eq_some_iff.mp hv).1
      have hv8 := h8.2 _ (List.mem_of_getElem? hv)
      have eb : b[((o' : Nat) : Int).toNat]?.getD 0 = v := by rw [Int.toNat_natCast, hv]; rfl
      rw [nmL_step hv] at hR
      walk_at "rd_Fa"
      rw [eb]
      refine rd_I (by decide) ?_
      walk_at "rd_Fa"
      refine rd_I (.inl ⟨by omega, by omega⟩) ?_
      walk_at "rdS_Fa"
      rw [show ((acc : Nat) : Int) + ((v : Nat) : Int) % 128 * ((fac : Nat) : Int) = ((acc + v % 128 * fac : Nat) : Int) by rw [Int.natCast_add, Int.natCast_mul, Int.natCast_emod]; rfl]
      refine rd_ifAndJ8 (fun Hc => Hc = H' ∧ ¬ (v = 0 ∧ 1 < fac)) ?_ fun hb => ?_
      · rintro Hc ⟨rfl, hn⟩
        rw [if_neg hn] at hR
        by_cases hv1 : v < 128
        · rw [if_pos hv1] at hR
          have hk : nmD b o lo hi = if lo ≤ acc + v % 128 * fac ∧ acc + v % 128 * fac < hi then .ok (acc + v % 128 * fac) (o' + 1) else .er o := by unfold nmD; rw [hR, DR.bind_ok]
          walk_at "rd_Fa"
          generalize acc + v % 128 * fac = z at hk ⊢
          have bad : ¬ (lo ≤ z ∧ z < hi) → ∀ p1 H1 p2 H2, Same Hc H1 → H1 p1 = some (.tup [.str "error", .str "DecodeError", .int (o : Nat)]) → Same H1 H2 → H2 p2 = some (.lst [.ref p1]) → Q (.ref p2) H2 := fun hn p1 H1 p2 H2 S1 e1 S2 e2 => k _ _ ((S.trans S1).trans S2) (by rw [hk, if_neg hn]; exact ⟨p2, p1, rfl, e2, S2 _ _ e1⟩)
          by_cases h4 : lo ≤ z
          · by_cases h5 : z < hi
            · walk_at "rd_Fa"
              intro p1 H1 S1 e1 _
              refine k _ _ (S.trans S1) ?_
              rw [hk, if_pos ⟨h4, h5⟩]
              exact ⟨p1, rfl, e1⟩
            · walk_at "rd_Fa"
              intro p1 H1 S1 e1 _
              walk_at "rd_Fa"
              intro p2 H2 S2 e2 _
              exact bad (fun z => h5 z.2) p1 H1 p2 H2 S1 e1 S2 e2
          · walk_at "rd_Fa"
            intro p1 H1 S1 e1 _
            walk_at "rd_Fa"
            intro p2 H2 S2 e2 _
            exact bad (fun z => h4 z.1) p1 H1 p2 H2 S1 e1 S2 e2
        · rw [if_neg hv1] at hR
          walk_at "rd_Fa"
          refine rd_mul_int (.inr (by decide)) ?_
          walk_at "rd_Fa"
          exact ⟨b.length - (o' + 1), by omega, o' + 1, acc + v % 128 * fac, fac * 128, by rw [Int.natCast_mul]; rfl, S, by omega, rfl, hR⟩
      · walk_at "rd_Fa"
        rw [eb]
        refine rd_ite (fun h4 => ?_) (fun h4 => hb _ ⟨rfl, fun z => h4 (by omega)⟩)
        walk_at "rd_Fa"
        refine rd_ite (fun h5 => ?_) (fun h5 => hb _ ⟨rfl, fun z => h5 (by omega)⟩)
        rw [if_pos ⟨by omega, by omega⟩] at hR
        have hk : nmD b o lo hi = .er o' := by unfold nmD; rw [hR]; rfl
        walk_at "rd_Fa"
        intro p1 H1 S1 e1 _
        walk_at "rd_Fa"
        intro p2 H2 S2 e2 _
        refine k _ _ ((S.trans S1).trans S2) ?_
        rw [hk]
        exact ⟨p2, p1, rfl, e2, S2 _ _ e1⟩
    · walk_at "rd_Fa"
      intro p1 H1 S1 e1 _
      walk_at "rd_Fa"
      intro p2 H2 S2 e2 _
      refine k _ _ ((S.trans S1).trans S2) ?_
      have hk : nmD b o lo hi = .er b.length := by unfold nmD; rw [hR, show o' = b.length by omega, nmL_end rfl]; rfl
      rw [hk]
      exact ⟨p2, p1, rfl, e2, S2 _ _ e1⟩
end
section
variable {P : Program} {w : World} {K : PySem.W.Frag} {mg : Str → Option Value} {base : Heap} {CText CPart CEditor CDecoder CTextError CInvalidStep CInvalidOperation CDecodeError CNotationError CTooLong CInvalidPlace CInvalidLetter CContradiction CInvalidCount c_law p_law : Addr}
theorem ok_x_law_one (T : Txt K mg CText CPart CEditor CDecoder CTextError CInvalidStep CInvalidOperation CDecodeError CNotationError CTooLong CInvalidPlace CInvalidLetter CContradiction CInvalidCount c_law p_law) : GOk P w K mg base CX0 2 "_law_one" (sp_x_law_one K) := by
  refine T.d_x_law_one.ok sc_x_law_one (fun vs H Q E h => ?len) (fun f cdv A outer s H vs Q E hr h => ?_)
  case len => obtain ⟨l, b, o, t, rfl, _⟩ := h; rfl
  · obtain ⟨l, b, o, t, rfl, el, h8, hob, ht, k⟩ := h
    refine ⟨_, (pss_cons (ps_set (i := 3) sc_x_law_one.nd rfl (Or.inl rfl) (pe_g (ok_x_law_take (K := K) T) (hr.mono (by decide)) pass0 (pa_cons (pv 0) (pa_cons (pv 1) (pa_cons pe_int (pa_cons pe_int pa_nil))))))
    (pss_cons (ps_if (pt_val (pe_callB (isiK (K := K) rfl) rfl T.n_isinstance (by decide +kernel) (pa_cons (pv 3) (pa_cons (pe_bltn (v := .ty "list") rfl T.n_list (by decide +kernel) rfl) pa_nil)))) (pss_one (ps_ret (pv 3)))
    pss_nil)
    (pss_cons (ps_if (pt_cmpR (eqK (K := K) rfl hr.units) (pe_ix (ixK (K := K) rfl) (pv 3) pe_int (fun _ _ => rfl)) pe_int (nomark _)) (pss_cons (ps_par (i := 4) (j := 5) rfl sc_x_law_one.nd rfl rfl (by decide) rfl rfl (pa_cons (pe_g (ok_x_law_take (K := K) T) (hr.mono (by decide)) pass0 (pa_cons (pv 0) (pa_cons (pe_op (addK (K := K) rfl) (pv 1) pe_int) (pa_cons pe_int (pa_cons pe_int pa_nil))))) (pa_cons pe_str pa_nil)) rfl)
    (pss_cons (ps_for PassesOwn.never rfl (pi_range1 rfl T.n_range (pa_cons (pe_ifExp (pt_val (pe_callB (isiK (K := K) rfl) rfl T.n_isinstance (by decide +kernel) (pa_cons (pv 4) (pa_cons (pe_bltn (v := .ty "list") rfl T.n_list (by decide +kernel) rfl) pa_nil)))) pe_int (pe_ix (ixK (K := K) rfl) (pv 4) pe_int (fun _ _ => rfl))) pa_nil)) (pg_name (i := 6) sc_x_law_one.nd rfl (Or.inl rfl)) (pss_cons (ps_set (i := 7) sc_x_law_one.nd rfl (Or.inl rfl) (pe_g (ok_x_law_take (K := K) T) (hr.mono (by decide)) pass0 (pa_cons (pv 0) (pa_cons (pe_op (addK (K := K) rfl) (pe_op (addK (K := K) rfl) (pv 1) pe_int) (pv 6)) (pa_cons pe_int (pa_cons pe_int pa_nil))))))
    (pss_cons (ps_if (pt_val (pe_callB (isiK (K := K) rfl) rfl T.n_isinstance (by decide +kernel) (pa_cons (pv 7) (pa_cons (pe_bltn (v := .ty "list") rfl T.n_list (by decide +kernel) rfl) pa_nil)))) (pss_one (ps_ret (pv 7)))
    pss_nil)
    (pss_one (ps_set (i := 5) sc_x_law_one.nd rfl (Or.inl rfl) (pe_op (addK (K := K) rfl) (pv 5) (pe_ix (ixK (K := K) rfl) pe_str (pe_ix (ixK (K := K) rfl) (pv 7) pe_int (fun _ _ => rfl)) (fun _ _ => rfl))))))))
    (pss_one (ps_set (i := 8) sc_x_law_one.nd rfl (Or.inl rfl) (pe_ifExp (pt_val (pe_callB (isiK (K := K) rfl) rfl T.n_isinstance (by decide +kernel) (pa_cons (pv 4) (pa_cons (pe_bltn (v := .ty "list") rfl T.n_list (by decide +kernel) rfl) pa_nil)))) (pv 4) (pe_tup (pa_cons (pe_tup (pa_cons pe_str (pa_cons (pv 5) pa_nil))) (pa_cons (pe_op (addK (K := K) rfl) (pe_op (addK (K := K) rfl) (pv 1) pe_int) (pe_callB (lenK (K := K) rfl) rfl T.n_len (by decide +kernel) (pa_cons (pv 5) pa_nil))) pa_nil))))))))
    (pss_cons (ps_asg (pe_tup (pa_cons (pe_tup pa_nil) (pa_cons (pe_op (addK (K := K) rfl) (pv 1) pe_int) (pa_cons pe_int (pa_cons (pe_op op_sub (pv 2) pe_int) pa_nil))))) (pg_tupK (K := K) (n := 4) rfl rfl (pgs_cons (pg_name (i := 8) sc_x_law_one.nd rfl (Or.inl rfl)) (pgs_cons (pg_name (i := 1) sc_x_law_one.nd rfl (Or.inl rfl)) (pgs_cons (pg_name (i := 9) sc_x_law_one.nd rfl (Or.inl rfl)) (pgs_cons (pg_name (i := 10) sc_x_law_one.nd rfl (Or.inl rfl)) pgs_nil))))))
    (pss_cons (ps_for PassesOwn.never rfl (pi_range1 rfl T.n_range (pa_cons pe_int pa_nil)) (pg_name (i := 6) sc_x_law_one.nd rfl (Or.inl rfl)) (pss_cons (ps_set (i := 11) sc_x_law_one.nd rfl (Or.inl rfl) (pe_g (ok_x_law_number (K := K) T) (hr.mono (by decide)) pass0 (pa_cons (pv 0) (pa_cons (pv 1) (pa_cons (pv 9) (pa_cons (pv 10) pa_nil))))))
    (pss_cons (ps_if (pt_val (pe_callB (isiK (K := K) rfl) rfl T.n_isinstance (by decide +kernel) (pa_cons (pv 11) (pa_cons (pe_bltn (v := .ty "list") rfl T.n_list (by decide +kernel) rfl) pa_nil)))) (pss_one (ps_ret (pv 11)))
    pss_nil)
    (pss_cons (ps_par (i := 8) (j := 1) rfl sc_x_law_one.nd rfl rfl (by decide) rfl rfl (pa_cons (pe_op (catTK (K := K) rfl) (pv 8) (pe_tup (pa_cons (pe_ix (ixK (K := K) rfl) (pv 11) pe_int (fun _ _ => rfl)) pa_nil))) (pa_cons (pe_ix (ixK (K := K) rfl) (pv 11) pe_int (fun _ _ => rfl)) pa_nil)) rfl)
    (pss_one (ps_asg (pe_ifExp (pt_cmpR (eqK (K := K) rfl hr.units) (pv 6) pe_int (nomark _)) (pe_tup (pa_cons (pe_ix (ixK (K := K) rfl) (pv 11) pe_int (fun _ _ => rfl)) (pa_cons (pe_op op_sub (pv 2) pe_int) pa_nil))) (pe_tup (pa_cons pe_int (pa_cons (pe_op op_pow pe_int pe_int) pa_nil)))) (pg_tupK (K := K) (n := 2) rfl rfl (pgs_cons (pg_name (i := 9) sc_x_law_one.nd rfl (Or.inl rfl)) (pgs_cons (pg_name (i := 10) sc_x_law_one.nd rfl (Or.inl rfl)) pgs_nil)))))))))
    (pss_one (ps_set (i := 8) sc_x_law_one.nd rfl (Or.inl rfl) (pe_tup (pa_cons (pe_op (catTK (K := K) rfl) (pe_tup (pa_cons pe_str pa_nil)) (pv 8)) (pa_cons (pv 1) pa_nil))))))))
    (pss_one (ps_ret (pv 8)))))), ?_⟩
    refine rd_startE (show start N_x_law_one [.ref l, .int (o : Nat), .int (t : Nat)] = [some (.ref l), some (.int (o : Nat)), some (.int (t : Nat)), none, none, none, none, none, none, none, none, none] from rfl) ?_
    have h81 := h8.1
    walk_at "rd_Fa"
    refine rd_take49 (lo := 0) (hi := 1) el h8 rfl rfl rfl fun v H1 S1 tk => ?_
    rw [tkC_le hob] at tk
    cases hr : tkD b o 0 1 with
    | er q =>
      rw [hr] at tk
      have hk : spD b o t = .er q := by unfold spD; rw [hr]; rfl
      obtain ⟨p1, p2, rfl, e1, e2⟩ := id tk
      walk_at "rd_Fa"
      refine rd_isi_lst_list (SqL.of e1) ?_
      walk_at "rd_Fa"
      refine k _ _ S1 ?_
      rw [hk]
      exact tk
    | ok m o1 =>
      rw [hr] at tk
      obtain ⟨_, _, hm1, rfl, ho1⟩ := tkD_ok hr
      obtain ⟨p1, rfl, e1⟩ := tk
      walk_at "rd_Fa"
      refine rd_isi_tup_list (SqT.of e1) ?_
      walk_at "rd_Fa"
      refine rd_ixT (v := .int (m : Nat)) ?_ (SqT.of e1) rfl
      walk_at "rd_Fa"
      refine rd_ite (fun h1 => ?_) (fun h1 => ?_)
      · have hm0 : m = 0 := by omega
        subst hm0
        have hsp : spD b o t = wrD b (o + 1) := by unfold spD; rw [hr, DR.bind_ok, if_pos rfl]
        walk_at "rd_Fa"
        refine rd_take49 (o := o + 1) (lo := 1) (hi := 20) (S1 _ _ el) h8 (by omega) rfl rfl fun v2 H2 S2 tk2 => ?_
        rw [tkC_le ho1] at tk2
        walk_at "rd_Fa"
        cases hr2 : tkD b (o + 1) 1 20 with
        | er q =>
          rw [hr2] at tk2
          have hk : spD b o t = .er q := by rw [hsp]; unfold wrD; rw [hr2]; rfl
          obtain ⟨p3, p4, rfl, e3, e4⟩ := id tk2
          refine rd_isi_lst_list (SqL.of e3) ?_
          walk_at "rd_Fa"
          refine ⟨_, rfl, by decide, by decide, for_range (n := 0) (fun j σ H' => H' = H2 ∧ σ = [some (.ref l), some (.int (o : Nat)), some (.int (t : Nat)), some (.ref p1), some (.ref p3), some (.str ""), none, none, none, none, none, none]) ⟨rfl, rfl⟩ (fun j σ H' hj _ => absurd hj (Nat.not_lt_zero _)) ?_⟩
          rintro σ H' ⟨rfl, rfl⟩
          walk_at "rd_Fa"
          refine rd_isi_lst_list (SqL.of e3) ?_
          walk_at "rd_Fa"
          refine k _ _ (S1.trans S2) ?_
          rw [hk]
          exact tk2
        | ok n o2 =>
          rw [hr2] at tk2
          obtain ⟨_, hn1, hn2, rfl, ho2⟩ := tkD_ok hr2
          obtain ⟨p3, rfl, e3⟩ := tk2
          refine rd_isi_tup_list (SqT.of e3) ?_
          walk_at "rd_Fa"
          refine rd_ixT (v := .int (n : Nat)) ?_ (SqT.of e3) rfl
          walk_at "rd_Fa"
          have l26 : (Str.ofString "abcdefghijklmnopqrstuvwxyz").length = 26 := by decide +kernel
          refine ⟨_, rfl, by omega, by omega, for_range (n := n) (fun j σ H' => ∃ v6 v7, Same H H' ∧ H' p3 = some (.tup [.int (n : Nat), .int ((o + 1 + 1 : Nat) : Nat)]) ∧ σ = [some (.ref l), some (.int (o : Nat)), some (.int (t : Nat)), some (.ref p1), some (.ref p3), some (.str (mkS (letB b (o + 1 + 1) j))), v6, v7, none, none, none, none] ∧ o + 1 + 1 + j ≤ b.length ∧ ltD b n (o + 1 + 1) [] = ltD b (n - j) (o + 1 + 1 + j) (letB b (o + 1 + 1) j)) ⟨_, _, S1.trans S2, e3, by rw [show mkS (letB b (o + 1 + 1) 0) = Str.ofString "" from (by decide +kernel : mkS [] = Str.ofString "")]; rfl, ho2, rfl⟩ ?_ ?_⟩
          · rintro j σ H' hj ⟨v6, v7, S, e3, rfl, ho3, hl⟩
            obtain ⟨m, hm⟩ : ∃ m, n - j = m + 1 := ⟨n - j - 1, by omega⟩
            rw [hm] at hl
            have ll : (letB b (o + 1 + 1) j).length = j := by unfold letB; rw [List.length_map, List.length_range]
            walk_at "rd_Fa"
            refine rd_take49 (o := o + 1 + 1 + j) (lo := 0) (hi := 25) (S _ _ el) h8 (by omega) rfl rfl fun v4 H4 S4 tk4 => ?_
            rw [tkC_le ho3] at tk4
            walk_at "rd_Fa"
            cases hr4 : tkD b (o + 1 + 1 + j) 0 25 with
            | er q =>
              rw [hr4] at tk4
              obtain ⟨p5, p6, rfl, e5, e6⟩ := id tk4
              refine rd_isi_lst_list (SqL.of e5) ?_
              walk_at "rd_Fa"
              refine k _ _ (S.trans S4) ?_
              have hk : spD b o t = .er q := by rw [hsp]; unfold wrD; rw [hr2, DR.bind_ok, hl, ltD_bad hr4]; rfl
              rw [hk]
              exact tk4
            | ok v o4 =>
              rw [hr4] at tk4
              obtain ⟨hv0, _, hv2, rfl, ho4⟩ := tkD_ok hr4
              obtain ⟨p5, rfl, e5⟩ := tk4
              refine rd_isi_tup_list (SqT.of e5) ?_
              walk_at "rd_Fa"
              refine rd_ixT (v := .int (v : Nat)) ?_ (SqT.of e5) rfl
              refine rd_ixSn (by rw [l26, sizeLine_eq]; decide) (low_at8 hv2) ?_
              refine rd_add_str (by rw [mkS_len, ll, sizeLine_eq]; show _ + 1 ≤ _; omega) ?_
              walk_at "rd_Fa"
              refine ⟨some (.int (0 + (j : Nat))), some (.ref p5), S.trans S4, S4 _ _ e3, ?_, ho4, ?_⟩
              · rw [letB_snoc, hv0, ← mkS_app]
                rfl
              · rw [hl, ltD_step hr4, letB_snoc, hv0, show n - (j + 1) = m by omega]; rfl
          · rintro σ H' ⟨v6, v7, S, e3, rfl, ho3, hl⟩
            have ll : (letB b (o + 1 + 1) n).length = n := by unfold letB; rw [List.length_map, List.length_range]
            rw [Nat.sub_self] at hl
            have hl : ltD b n (o + 1 + 1) [] = .ok (letB b (o + 1 + 1) n) (o + 1 + 1 + n) := hl
            have hk : spD b o t = .ok (.wr (mkS (letB b (o + 1 + 1) n))) (o + 1 + 1 + n) := by rw [hsp]; unfold wrD; rw [hr2, DR.bind_ok, hl]; rfl
            rw [hk] at k
            walk_at "rd_Fa"
            refine rd_isi_tup_list (SqT.of e3) ?_
            walk_at "rd_Fa"
            intro p5 H5 S5 e5 _
            walk_at "rd_Fa"
            intro p6 H6 S6 e6 _
            walk_at "rd_Fa"
            refine k _ _ ((S.trans S5).trans S6) ⟨p6, p5, rfl, ?_, StepAt.wrN (S6 _ _ e5)⟩
            rw [e6, show ((o : Nat) : Int) + 2 + ((letB b (o + 1 + 1) n).length : Nat) = ((o + 1 + 1 + n : Nat) : Int) by omega]
      · have hm1 : m = 1 := by omega
        subst hm1
        have hsp : spD b o t = paD b (o + 1) t := by unfold spD; rw [hr, DR.bind_ok, if_neg (by decide)]
        walk_at "rd_Fa"
        intro p2 H2 S2 e2 _
        walk_at "rd_Fa"
        intro p3 H3 S3 e3 _
        refine rd_gtup (SqT.of e3) rfl ?_
        walk_at "rd_Fa"
        have S03 := (S1.trans S2).trans S3
        refine ⟨_, rfl, by omega, by omega, for_range (n := 3) (fun j σ H' => ∃ (fs : List Nat) (oi lo hi : Nat) (pf : Addr) (v4 v5 v6 v11 : Option V), σ = [some (.ref l), some (.int (oi : Nat)), some (.int (t : Nat)), some (.ref p1), v4, v5, v6, none, some (.ref pf), some (.int (lo : Nat)), some (.int ((hi : Nat) - 1)), v11] ∧ Same H H' ∧ SqT K H' pf (natV fs) ∧ oi ≤ b.length ∧
          ((j = 0 ∧ fs = [] ∧ oi = o + 1 ∧ lo = 0 ∧ hi = t) ∨ (∃ f, j = 1 ∧ fs = [f] ∧ nmD b (o + 1) 0 t = .ok f oi ∧ lo = f ∧ hi = t) ∨ (∃ f m o2, j = 2 ∧ fs = [f, m] ∧ nmD b (o + 1) 0 t = .ok f o2 ∧ nmD b o2 f t = .ok m oi ∧ lo = 1 ∧ hi = 1000000001) ∨ (∃ f m r, j = 3 ∧ fs = [f, m, r] ∧ paD b (o + 1) t = .ok (.pa f m r) oi))) ⟨[], o + 1, 0, t, p2, _, _, _, _, rfl, S03, SqT.of (S3 _ _ e2), ho1, .inl ⟨rfl, rfl, rfl, rfl, rfl⟩⟩ ?_ ?_⟩
        · rintro j σ H' hj ⟨fs, oi, lo, hi, pf, v4, v5, v6, v11, rfl, S, ef, hoi, hR⟩
          have hfs : fs.length = j ∧ j ≤ 2 := by
            rcases hR with ⟨rfl, rfl, _⟩ | ⟨f, rfl, rfl, _⟩ | ⟨f, m, o2, rfl, rfl, _⟩ | ⟨f, m, r, rfl, rfl, _⟩
            · exact ⟨rfl, by decide⟩
            · exact ⟨rfl, by decide⟩
            · exact ⟨rfl, by decide⟩
            · omega
          have bad : ∀ q, nmD b oi lo hi = .er q → spD b o t = .er q := fun q hq => by
            rw [hsp]; unfold paD
            rcases hR with ⟨rfl, rfl, rfl, rfl, rfl⟩ | ⟨f, rfl, rfl, h2, rfl, rfl⟩ | ⟨f, m, o2, rfl, rfl, h2, h3, rfl, rfl⟩ | ⟨f, m, r, rfl, rfl, _⟩
            · rw [hq]; rfl
            · rw [h2, DR.bind_ok, hq]; rfl
            · rw [h2, DR.bind_ok, h3, DR.bind_ok, hq]; rfl
            · omega
          walk_at "rd_Fa"
          refine rd_number49 (S _ _ el) h8 hoi rfl rfl rfl fun v4' H4 S4 tk4 => ?_
          walk_at "rd_Fa"
          cases hr4 : nmD b oi lo hi with
          | er q =>
            rw [hr4] at tk4
            obtain ⟨p5, p6, rfl, e5, e6⟩ := id tk4
            refine rd_isi_lst_list (SqL.of e5) ?_
            walk_at "rd_Fa"
            refine k _ _ (S.trans S4) ?_
            rw [bad q hr4]
            exact tk4
          | ok n o4 =>
            rw [hr4] at tk4
            obtain ⟨p5, rfl, e5⟩ := tk4
            have a4 := nmD_ok hr4
            refine rd_isi_tup_list (SqT.of e5) ?_
            walk_at "rd_Fa"
            refine rd_ixT (v := .int (n : Nat)) ?_ (SqT.of e5) rfl
            walk_at "rd_Fa"
            intro p6 H6 S6 e6 _
            refine rd_catT (Same.tup (S4.trans S6) ef) (SqT.of e6) (by rw [natV_len, hfs.1]; show _ + 1 ≤ _; omega) fun p7 H7 S7 e7 => ?_
            have S8 := (S4.trans S6).trans S7
            have e7 : SqT K H7 p7 (natV (fs ++ [n])) := by rw [natV_snoc]; exact e7
            walk_at "rd_Fa"
            refine rd_ixT (v := .int (o4 : Nat)) ?_ (SqT.of ((S6.trans S7) _ _ e5)) rfl
            walk_at "rd_Fa"
            rcases hR with ⟨rfl, rfl, rfl, rfl, rfl⟩ | ⟨f, rfl, rfl, h2, rfl, rfl⟩ | ⟨f, m, o2, rfl, rfl, h2, h3, rfl, rfl⟩ | ⟨f, m, r, rfl, rfl, _⟩
            · walk_at "rd_Fa"
              refine rd_ixT (v := .int (n : Nat)) ?_ (SqT.of ((S6.trans S7) _ _ e5)) rfl
              walk_at "rd_Fa"
              intro p8 H8 S9 e8 _
              refine rd_gtup (SqT.of e8) rfl ?_
              walk_at "rd_Fa"
              exact ⟨[n], o4, n, _, p7, _, _, _, _, rfl, (S.trans S8).trans S9, Same.tup S9 e7, a4.2.2.2, .inr (.inl ⟨n, rfl, rfl, hr4, rfl, rfl⟩)⟩
            · walk_at "rd_Fa"
              refine rd_p9 ?_
              walk_at "rd_Fa"
              intro p8 H8 S9 e8 _
              refine rd_gtup (SqT.of e8) rfl ?_
              walk_at "rd_Fa"
              exact ⟨[lo, n], o4, 1, 1000000001, p7, _, _, _, _, rfl, (S.trans S8).trans S9, Same.tup S9 e7, a4.2.2.2, .inr (.inr (.inl ⟨lo, n, oi, rfl, rfl, h2, hr4, rfl, rfl⟩))⟩
            · walk_at "rd_Fa"
              refine rd_p9 ?_
              walk_at "rd_Fa"
              intro p8 H8 S9 e8 _
              refine rd_gtup (SqT.of e8) rfl ?_
              walk_at "rd_Fa"
              exact ⟨[f, m, n], o4, 1, 1000000001, p7, _, _, _, _, rfl, (S.trans S8).trans S9, Same.tup S9 e7, a4.2.2.2, .inr (.inr (.inr ⟨f, m, n, rfl, rfl, by unfold paD; rw [h2, DR.bind_ok, h3, DR.bind_ok, hr4]; rfl⟩))⟩
            · omega
        · rintro σ H' ⟨fs, oi, lo, hi, pf, v4, v5, v6, v11, rfl, S, ef, hoi, hR⟩
          obtain ⟨f, m, r, _, rfl, hpa⟩ : ∃ f m r, (3 : Nat) = 3 ∧ fs = [f, m, r] ∧ paD b (o + 1) t = .ok (.pa f m r) oi := by
            rcases hR with ⟨h, _⟩ | ⟨f, h, _⟩ | ⟨f, m, o2, h, _⟩ | h
            · cases h
            · cases h
            · cases h
            · exact h
          have hk : spD b o t = .ok (.pa f m r) oi := by rw [hsp, hpa]
          rw [hk] at k
          walk_at "rd_Fa"
          intro p5 H5 S5 e5 _
          walk_at "rd_Fa"
          refine rd_catT (SqT.of e5) (Same.tup S5 ef) (by show 1 + 3 ≤ 16777216; decide) fun p6 H6 S6 e6 => ?_
          walk_at "rd_Fa"
          intro p7 H7 S7 e7 _
          walk_at "rd_Fa"
          refine k _ _ (((S.trans S5).trans S6).trans S7) ⟨p7, p6, rfl, e7, ?_⟩
          exact ⟨p6, rfl, Same.tup S7 e6⟩
end
section
variable {P : Program} {w : World} {K : PySem.W.Frag} {mg : Str → Option Value} {base : Heap} {CText CPart CEditor CDecoder CTextError CInvalidStep CInvalidOperation CDecodeError CNotationError CTooLong CInvalidPlace CInvalidLetter CContradiction CInvalidCount c_law p_law : Addr}
theorem ok_x_law_decoded (T : Txt K mg CText CPart CEditor CDecoder CTextError CInvalidStep CInvalidOperation CDecodeError CNotationError CTooLong CInvalidPlace CInvalidLetter CContradiction CInvalidCount c_law p_law) : GOk P w K mg base CX0 3 "_law_decoded" (sp_x_law_decoded K) := by
  refine T.d_x_law_decoded.ok sc_x_law_decoded (fun vs H Q E h => ?len) (fun f cdv A outer s H vs Q E hr h => ?_)
  case len => obtain ⟨l, b, rfl, _⟩ := h; rfl
  · obtain ⟨l, b, rfl, el, h8, k⟩ := h
    refine ⟨_, (pss_cons (ps_par (i := 1) (j := 2) rfl sc_x_law_decoded.nd rfl rfl (by decide) rfl rfl (pa_cons (pe_g (ok_x_law_take (K := K) T) (hr.mono (by decide)) pass0 (pa_cons (pv 0) (pa_cons pe_int (pa_cons pe_int (pa_cons pe_int pa_nil))))) (pa_cons (pe_g (ok_x_law_take (K := K) T) (hr.mono (by decide)) pass0 (pa_cons (pv 0) (pa_cons pe_int (pa_cons pe_int (pa_cons pe_int pa_nil))))) pa_nil)) rfl)
    (pss_cons (ps_for PassesOwn.never rfl (pi_tupK (K := K) rfl (pe_tup (pa_cons (pv 1) (pa_cons (pv 2) pa_nil)))) (pg_name (i := 3) sc_x_law_decoded.nd rfl (Or.inl rfl)) (pss_one (ps_if (pt_val (pe_callB (isiK (K := K) rfl) rfl T.n_isinstance (by decide +kernel) (pa_cons (pv 3) (pa_cons (pe_bltn (v := .ty "list") rfl T.n_list (by decide +kernel) rfl) pa_nil)))) (pss_one (ps_ret (pe_ix (ixK (K := K) rfl) (pv 3) pe_int (fun _ _ => rfl))))
    pss_nil)))
    (pss_cons (ps_par3 (i := 4) (j := 5) (l := 6) rfl sc_x_law_decoded.nd rfl rfl rfl (by decide) (by decide) (by decide) rfl rfl rfl (pa_cons (pe_lst pa_nil) (pa_cons pe_int (pa_cons pe_int pa_nil))) rfl)
    (pss_cons (ps_for PassesOwn.never rfl (pi_range1 rfl T.n_range (pa_cons (pe_ix (ixK (K := K) rfl) (pv 2) pe_int (fun _ _ => rfl)) pa_nil)) (pg_name (i := 7) sc_x_law_decoded.nd rfl (Or.inl rfl)) (pss_cons (ps_par (i := 8) (j := 9) rfl sc_x_law_decoded.nd rfl rfl (by decide) rfl rfl (pa_cons (pv 6) (pa_cons (pe_g (ok_x_law_one (K := K) T) (hr.mono (by decide)) pass0 (pa_cons (pv 0) (pa_cons (pv 6) (pa_cons (pv 5) pa_nil)))) pa_nil)) rfl)
    (pss_cons (ps_if (pt_val (pe_callB (isiK (K := K) rfl) rfl T.n_isinstance (by decide +kernel) (pa_cons (pv 9) (pa_cons (pe_bltn (v := .ty "list") rfl T.n_list (by decide +kernel) rfl) pa_nil)))) (pss_one (ps_ret (pe_ix (ixK (K := K) rfl) (pv 9) pe_int (fun _ _ => rfl))))
    pss_nil)
    (pss_cons (ps_asg (pv 9) (pg_tupK (K := K) (n := 2) rfl rfl (pgs_cons (pg_name (i := 10) sc_x_law_decoded.nd rfl (Or.inl rfl)) (pgs_cons (pg_name (i := 6) sc_x_law_decoded.nd rfl (Or.inl rfl)) pgs_nil))))
    (pss_cons (ps_set (i := 5) sc_x_law_decoded.nd rfl (Or.inl rfl) (pe_op (addK (K := K) rfl) (pv 5) (pe_ifExp (pt_cmpR (eqK (K := K) rfl hr.units) (pe_ix (ixK (K := K) rfl) (pv 10) pe_int (fun _ _ => rfl)) pe_str (nomark _)) (pe_callB (lenK (K := K) rfl) rfl T.n_len (by decide +kernel) (pa_cons (pe_ix (ixK (K := K) rfl) (pv 10) pe_int (fun _ _ => rfl)) pa_nil)) (pe_op op_mulW (pe_op (addK (K := K) rfl) (pe_op op_sub (pe_ix (ixK (K := K) rfl) (pv 10) pe_int (fun _ _ => rfl)) (pe_ix (ixK (K := K) rfl) (pv 10) pe_int (fun _ _ => rfl))) pe_int) (pe_ix (ixK (K := K) rfl) (pv 10) pe_int (fun _ _ => rfl))))))
    (pss_cons (ps_if (pt_cmpR op_gt (pv 5) (pe_op op_pow pe_int pe_int) (nomark _)) (pss_one (ps_ret (pe_tup (pa_cons pe_str (pa_cons pe_str (pa_cons (pv 8) pa_nil))))))
    pss_nil)
    (pss_one (ps_expr (pe_bmK (K := K) rfl PySem.F.plainAttrs_list PySem.F.slot_list_append PySem.F.type_list_append mt_append (pv 4) (pa_cons (pv 10) pa_nil))))))))))
    (pss_cons (ps_set (i := 11) sc_x_law_decoded.nd rfl (Or.inl rfl) (pe_ix (ixK (K := K) rfl) (pe_g (ok_x_law_closed (K := K) T) (hr.mono (by decide)) pass0 (pa_cons (pe_slice (slK (K := K) rfl) (pv 0) po_none (po_some (pv 6))) pa_nil)) (pe_un un_neg pe_int) (fun _ _ => rfl)))
    (pss_cons (ps_set (i := 12) sc_x_law_decoded.nd rfl (Or.inl rfl) (pe_g (ok_x_law_take (K := K) T) (hr.mono (by decide)) pass0 (pa_cons (pv 0) (pa_cons (pv 6) (pa_cons (pv 11) (pa_cons (pv 11) pa_nil))))))
    (pss_cons (ps_if (pt_val (pe_callB (isiK (K := K) rfl) rfl T.n_isinstance (by decide +kernel) (pa_cons (pv 12) (pa_cons (pe_bltn (v := .ty "list") rfl T.n_list (by decide +kernel) rfl) pa_nil)))) (pss_one (ps_ret (pe_ix (ixK (K := K) rfl) (pv 12) pe_int (fun _ _ => rfl))))
    pss_nil)
    (pss_one (ps_ret (pe_ifExp (pt_cmpR (eqK (K := K) rfl hr.units) (pe_op (addK (K := K) rfl) (pv 6) pe_int) (pe_callB (lenK (K := K) rfl) rfl T.n_len (by decide +kernel) (pa_cons (pv 0) pa_nil)) (nomark _)) (pe_callTy (tupK (K := K) rfl) rfl T.n_tuple (by decide +kernel) (pa_cons (pv 4) pa_nil)) (pe_tup (pa_cons pe_str (pa_cons pe_str (pa_cons (pe_op (addK (K := K) rfl) (pv 6) pe_int) pa_nil)))))))))))))), ?_⟩
    refine rd_startE (show start N_x_law_decoded [.ref l] = [some (.ref l), none, none, none, none, none, none, none, none, none, none, none, none] from rfl) ?_
    have h81 := h8.1
    walk_at "rd_Fa"
    refine rd_take49 (o := 0) (lo := 80) (hi := 80) el h8 rfl rfl rfl fun v1 H1 S1 tk1 => ?_
    walk_at "rd_Fa"
    refine rd_take49 (o := 1) (lo := 0) (hi := 30) (S1 _ _ el) h8 rfl rfl rfl fun v2 H2 S2 tk2 => ?_
    rw [tkC_le (Nat.zero_le _)] at tk1
    have tk1 := tk1.mono S2
    have el2 := S2 _ _ (S1 _ _ el)
    have S12 := S1.trans S2
    clear S1 S2
    have badE : ∀ q, decD b = .er q → ∀ {Hx : Hp} (pl : Addr) (v : V), Same H Hx → Er49 Hx v q → v = .ref pl → rIx K (.ref pl) (.int 0) Hx Q := fun q hq Hx pl v Sx ⟨l1, p1, ev, e1, e2⟩ hv => by
      rw [hv] at ev
      cases ev
      exact rd_ixLn (j := 0) (SqL.of e1) rfl (k _ _ Sx (by rw [hq]; exact ⟨p1, rfl, e2⟩))
    walk_at "rd_Fa"
    intro p3 H3 S3 e3 _
    refine ⟨p3, rfl, ⟨_, SqT.of e3⟩, for_tup (xs := [v1, v2]) (fun i σ H' => ∃ v3, σ = [some (.ref l), some v1, some v2, v3, none, none, none, none, none, none, none, none, none] ∧ H' = H3 ∧ (1 ≤ i → ∃ n1, tkD b 0 80 80 = .ok n1 1) ∧ (2 ≤ i → ∃ n, tkD b 1 0 30 = .ok n 2)) ⟨_, rfl, rfl, fun z => absurd z (by decide), fun z => absurd z (by decide)⟩ (fun i σ H' _ z => by obtain ⟨_, _, rfl, _⟩ := z; exact SqT.of e3) ?_ ?_⟩
    · rintro i v σ H' hv ⟨v3, rfl, rfl, hi1, hi2⟩
      match i, hv with
      | 0, hv =>
        cases hv
        have tk := tk1.mono S3
        walk_at "rd_Fa"
        cases hr : tkD b 0 80 80 with
        | er q =>
          rw [hr] at tk
          obtain ⟨p5, p6, rfl, e5, e6⟩ := id tk
          refine rd_isi_lst_list (SqL.of e5) ?_
          walk_at "rd_Fa"
          exact badE q (by unfold decD; rw [hr]; rfl) _ _ (S12.trans S3) tk rfl
        | ok n1 o1 =>
          rw [hr] at tk
          obtain ⟨_, _, _, rfl, _⟩ := tkD_ok hr
          obtain ⟨p5, rfl, e5⟩ := tk
          refine rd_isi_tup_list (SqT.of e5) ?_
          walk_at "rd_Fa"
          exact ⟨_, rfl, rfl, fun _ => ⟨n1, rfl⟩, fun z => absurd z (by decide)⟩
      | 1, hv =>
        cases hv
        obtain ⟨n1, hr1⟩ := hi1 (Nat.le_refl _)
        obtain ⟨_, _, _, _, hb1⟩ := tkD_ok hr1
        rw [tkC_le hb1] at tk2
        have tk := tk2.mono S3
        walk_at "rd_Fa"
        cases hr : tkD b 1 0 30 with
        | er q =>
          rw [hr] at tk
          obtain ⟨p5, p6, rfl, e5, e6⟩ := id tk
          refine rd_isi_lst_list (SqL.of e5) ?_
          walk_at "rd_Fa"
          exact badE q (by unfold decD; rw [hr1, DR.bind_ok, hr]; rfl) _ _ (S12.trans S3) tk rfl
        | ok n o1 =>
          rw [hr] at tk
          obtain ⟨_, _, _, rfl, _⟩ := tkD_ok hr
          obtain ⟨p5, rfl, e5⟩ := tk
          refine rd_isi_tup_list (SqT.of e5) ?_
          walk_at "rd_Fa"
          exact ⟨_, rfl, rfl, fun _ => ⟨n1, hr1⟩, fun _ => ⟨n, rfl⟩⟩
      | i + 2, hv => simp at hv
    · rintro σ H' ⟨v3, rfl, rfl, hi1, hi2⟩
      obtain ⟨n1, hr1⟩ := hi1 (by show 1 ≤ 2; decide)
      obtain ⟨n, hr2⟩ := hi2 (Nat.le_refl _)
      obtain ⟨_, _, _, _, hb1⟩ := tkD_ok hr1
      obtain ⟨_, _, hn, _, hb2⟩ := tkD_ok hr2
      rw [tkC_le hb1, hr2] at tk2
      obtain ⟨p5, rfl, e5⟩ := tk2.mono S3
      have hd : decD b = (ssD b n 2 0 []).bind fun ss o3 => (finD b o3).bind fun _ o4 => .ok ss o4 := by unfold decD; rw [hr1, DR.bind_ok, hr2, DR.bind_ok]
      have S := S12.trans S3
      have el3 := S3 _ _ el2
      walk_at "rd_Fa"
      refine rd_par3 ?_
      walk_at "rd_Fa"
      intro sl H4 S4 e4 n4
      walk_at "rd_Fa"
      refine ⟨_, _, _, rfl, ?_⟩
      walk_at "rd_Fa"
      refine rd_ixT (v := .int (n : Nat)) ?_ (SqT.of (S4 _ _ e5)) rfl
      walk_at "rd_Fa"
      refine ⟨_, rfl, by omega, by omega, for_range (n := n) (fun i σ H'' => ∃ ms acc oi v3 v7 v8 v9 v10, σ = [some (.ref l), some v1, some (.ref p5), v3, some (.ref sl), some (.int (sz acc : Nat)), some (.int (oi : Nat)), v7, v8, v9, v10, none, none] ∧ Same H' H'' ∧ H'' sl = some (.lst ms) ∧ StepsAt K H'' ms acc ∧ okFrom 0 acc ∧ acc.length = i ∧ oi ≤ b.length ∧ ssD b n 2 0 [] = ssD b (n - i) oi (sz acc) acc) ⟨[], [], 2, _, _, _, _, _, rfl, S4, e4, StepsAt.nil, trivial, rfl, hb2, rfl⟩ ?_ ?_⟩
      · rintro i σ H'' hi ⟨ms, acc, oi, v3, v7, v8, v9, v10, rfl, S5, es, st, ok, hl, hoi, hs⟩
        obtain ⟨m, hm⟩ : ∃ m, n - i = m + 1 := ⟨n - i - 1, by omega⟩
        rw [hm, ssD_step] at hs
        have hml : ms.length = i := by rw [st.1, hl]
        have badS : ∀ q, stpD b oi (sz acc) = .er q → decD b = .er q := fun q hq => by rw [hd, hs, hq]; rfl
        have hsz := sz_le ok
        walk_at "rd_Fa"
        refine rd_one49 (S5 _ _ el3) h8 hoi hsz fun v6 H6 S6 tk6 => ?_
        walk_at "rd_Fa"
        cases hr : spD b oi (sz acc) with
        | er q =>
          rw [hr] at tk6
          obtain ⟨p7, p8, rfl, e7, e8⟩ := id tk6
          refine rd_isi_lst_list (SqL.of e7) ?_
          walk_at "rd_Fa"
          exact badE q (badS q (by unfold stpD; rw [hr]; rfl)) _ _ ((S.trans S5).trans S6) tk6 rfl
        | ok s o' =>
          rw [hr] at tk6
          obtain ⟨p7, q7, rfl, e7, sa7⟩ := tk6
          obtain ⟨a1, a2, a3⟩ := spD_ok hr
          obtain ⟨q8, hq8, sq7⟩ := id sa7
          cases hq8
          have es6 := S6 _ _ es
          refine rd_isi_tup_list (SqT.of e7) ?_
          refine ⟨false, rfl, ?_⟩
          rw [if_neg Bool.false_ne_true]
          refine rd_next (rd_seq (rd_asg (rd_var rfl (rd_gtup (SqT.of e7) rfl (rd_gcons (rd_name (rd_gcons (rd_name (rd_gnil ?_)))))))))
          refine rd_seq (rd_asg (rd_op (rd_var rfl ?_)))
          refine rd_tIfJ (fun v H' => v = .int (len1 s : Nat) ∧ H' = H6) ?_ fun R hR => ?_
          · rintro v H' ⟨rfl, rfl⟩
            have hk : stpD b oi (sz acc) = if 1000000000000000000 < sz acc + len1 s then .er oi else .ok s o' := by unfold stpD; rw [hr]; rfl
            walk_at "rd_Fa"
            refine rd_p18 fun B hB => ?_
            walk_at "rd_Fa"
            by_cases h3 : 1000000000000000000 < sz acc + len1 s
            · rw [if_pos h3] at hk
              refine rd_ite (fun _ => ?_) (fun z => absurd z ?_)
              · walk_at "rd_Fa"
                intro p9 H9 S9 e9 _
                exact k _ _ (((S.trans S5).trans S6).trans S9) (by rw [badS oi hk]; exact ⟨p9, rfl, e9⟩)
              · omega
            · rw [if_neg h3] at hk
              refine rd_ite (fun z => absurd z ?_) (fun _ => ?_)
              · omega
              · walk_at "rd_Fa"
                refine rd_tyL (SqL.of es6) _ ?_
                walk_at "rd_Fa"
                refine rd_append es6 (by rw [hml, sizeLine_eq]; omega) ?_
                refine ⟨ms ++ [.ref q7], acc ++ [s], o', _, _, _, _, _, by rw [sz_snoc, Int.natCast_add]; rfl, Same.mut (S5.trans S6) n4, upd_same, ?_, ok_snoc ok a1 (by omega), by rw [List.length_append, hl]; rfl, a3, ?_⟩
                · exact ((st.mono S6).updL es6).append (StepAt.one' (sa7.updL es6))
                · rw [hs, hk, DR.bind_ok, sz_snoc, show n - (i + 1) = m by omega]
          · cases s with
            | wr w =>
              walk_at "rd_Fa"
              refine rd_ixT (v := .str "write") ?_ sq7 rfl
              walk_at "rd_Fa"
              refine rd_ixT (v := .str w) ?_ sq7 rfl
              walk_at "rd_Fa"
              refine rd_len_str (str_small a1.2.1) ?_
              exact hR _ _ ⟨rfl, rfl⟩
            | pa f l' t =>
              obtain ⟨b1, b2, b3, b4⟩ := a1
              walk_at "rd_Fa"
              refine rd_ixT (v := .str "paste") ?_ sq7 rfl
              walk_at "rd_Fa"
              refine rd_ixT (v := .int (l' : Nat)) ?_ sq7 rfl
              walk_at "rd_Fa"
              refine rd_ixT (v := .int (f : Nat)) ?_ sq7 rfl
              walk_at "rd_Fa"
              refine rd_ixT (v := .int (t : Nat)) ?_ sq7 rfl
              refine rd_mulW (n := l' - f + 1) (m := t) (by omega) rfl (by omega) (by omega) ?_
              exact hR _ _ ⟨rfl, rfl⟩
      · rintro σ H'' ⟨ms, acc, oi, v3, v7, v8, v9, v10, rfl, S5, es, st, ok, hl, hoi, hs⟩
        rw [Nat.sub_self] at hs
        have hd : decD b = (finD b oi).bind fun _ o4 => .ok acc o4 := by rw [hd, hs]; rfl
        walk_at "rd_Fa"
        refine rd_slNto (S5 _ _ el3) fun p6 H6 S6 e6 => ?_
        walk_at "rd_Fa"
        refine rd_closed e6 (by rw [List.length_take]; omega) fun p7 H7 S7 n7 e7 => ?_
        walk_at "rd_Fa"
        refine rd_ixLastN e7 ?_
        walk_at "rd_Fa"
        have S57 := (S5.trans S6).trans S7
        refine rd_take49 (S57 _ _ el3) h8 rfl rfl rfl fun v8' H8 S8 tk8 => ?_
        rw [tkC_le hoi] at tk8
        walk_at "rd_Fa"
        cases hr : tkD b oi (ckS (b.take oi)) (ckS (b.take oi)) with
        | er q =>
          rw [hr] at tk8
          obtain ⟨p9, p10, rfl, e9, e10⟩ := id tk8
          refine rd_isi_lst_list (SqL.of e9) ?_
          walk_at "rd_Fa"
          exact badE q (by rw [hd]; unfold finD; rw [hr]; rfl) _ _ ((S.trans S57).trans S8) tk8 rfl
        | ok v9' o9 =>
          rw [hr] at tk8
          obtain ⟨_, _, _, rfl, ho9⟩ := tkD_ok hr
          obtain ⟨p9, rfl, e9⟩ := tk8
          have hf : decD b = if oi + 1 < b.length then .er (oi + 1) else .ok acc (oi + 1) := by
            rw [hd]; unfold finD; rw [hr, DR.bind_ok]
            by_cases h : oi + 1 < b.length
            · rw [if_pos h, if_pos h]; rfl
            · rw [if_neg h, if_neg h]; rfl
          rw [hf] at k
          refine rd_isi_tup_list (SqT.of e9) ?_
          walk_at "rd_Fa"
          have SS := (S.trans S57).trans S8
          by_cases h9 : oi + 1 < b.length
          · rw [if_pos h9] at k
            walk_at "rd_Fa"
            intro p10 H10 S10 e10 _
            exact k _ _ (SS.trans S10) ⟨p10, rfl, e10⟩
          · rw [if_neg h9] at k
            walk_at "rd_Fa"
            refine rd_tupLS (SqL.of (((S6.trans S7).trans S8) _ _ es)) (((st.mono S6).mono S7).mono S8) fun p10 H10 S10 t10 => ?_
            exact k _ _ (SS.trans S10) ⟨p10, rfl, t10⟩
end
local macro_rules | `(tactic| walk_at "rd1_Fl") => `(tactic| first
  | with_reducible refine rd_seq ?_ | with_reducible refine rd_asg ?_ | with_reducible refine rd_name ?_ | ((with_reducible refine' rd_var ?k1 ?_); (case k1 => rfl)) | with_reducible refine rd_C ?_ | with_reducible refine rd_op ?_ | with_reducible refine rd_cons ?_ | with_reducible refine rd_nil ?_
  | with_reducible refine rd_test ?_ | with_reducible refine rd_tB ?_ | with_reducible refine rd_bl ?_ | with_reducible refine rd_ifS ?_ | with_reducible refine rd_and ?_ | with_reducible refine rd_or ?_ | with_reducible refine rd_not ?_ | with_reducible refine rd_andV ?_ | with_reducible refine rd_orV ?_ | with_reducible refine rd_notV ?_ | with_reducible refine rd_chain ?_
  | with_reducible refine rd_if ?_ | with_reducible refine rd_g ?_ | with_reducible refine rd_m ?_ | with_reducible refine rd_star ?_ | with_reducible refine rd_tup ?_ | with_reducible refine rd_lst ?_ | with_reducible refine rd_fld ?_ | with_reducible refine rd_cb ?_ | with_reducible refine rd_un ?_ | with_reducible refine rd_makeR ?_ | with_reducible refine rd_makeS ?_
  | with_reducible refine rd_bm ?_ | with_reducible refine rd_bm0 ?_ | with_reducible refine rd_next ?_ | with_reducible refine rd_break ?_ | with_reducible refine rd_cont ?_ | with_reducible refine rd_ret ?_ | with_reducible refine rd_retN ?_ | with_reducible refine rd_drop ?_ | with_reducible refine rd_gcons ?_ | with_reducible refine rd_gnil ?_ | with_reducible refine rd_gsub ?_
  | ((with_reducible refine' rd_aug ?k1 ?_); (case k1 => rfl)) | with_reducible refine rd_ipI ?_ | with_reducible refine rd_sfld ?_ | with_reducible refine rd_for ?_ | with_reducible refine rd_iStr ?_ | with_reducible refine rd_iList ?_ | with_reducible refine rd_iTup ?_ | with_reducible refine rd_iRng1 ?_ | with_reducible refine rd_iRng2 ?_ | with_reducible refine rd_iEnumT ?_ | with_reducible refine rd_match ?_ | with_reducible refine rd_par ?_ | with_reducible refine rd_two ?_
  | with_reducible refine rd_sl ?_ | with_reducible refine rd_noPart ?_ | with_reducible refine rd_part ?_ | with_reducible refine rd_pint ?_ | with_reducible refine rd_listRg ?_ | with_reducible refine rd_rg1 ?_ | with_reducible refine rd_rg2 ?_ | with_reducible refine rd_ixO ?_ | with_reducible refine rd_U ?_ | with_reducible refine rd_int_int ?_ | with_reducible refine rd_int_bl ?_ | with_reducible refine rd_min2 ?_ | with_reducible refine rd_max2 ?_ | with_reducible refine rd_in_sign ?_ | with_reducible refine rd_isN ?_ | with_reducible refine rd_notN ?_
  | with_reducible refine rd_lc ?_ | with_reducible refine rd_yes ?_ | with_reducible refine rd_prop ?_ | with_reducible refine rd_cmeth ?_ | with_reducible refine rd_o ?_ | with_reducible refine rd_add_int ?_ | with_reducible refine rd_sub ?_ | with_reducible refine rd_eq_int ?_ | with_reducible refine rd_eq_str ?_ | with_reducible refine rd_eq_bl ?_ | with_reducible refine rd_ne_int ?_ | with_reducible refine rd_ne_str ?_ | with_reducible refine rd_ne_bl ?_ | with_reducible refine rd_I0 ?_
  | with_reducible refine rd_isi_int_int ?_ | with_reducible refine rd_isi_int_bool ?_ | with_reducible refine rd_isi_int_str ?_ | with_reducible refine rd_isi_int_list ?_ | with_reducible refine rd_isi_int_tuple ?_ | with_reducible refine rd_isi_bl_int ?_ | with_reducible refine rd_isi_bl_bool ?_ | with_reducible refine rd_isi_bl_str ?_ | with_reducible refine rd_isi_bl_list ?_ | with_reducible refine rd_isi_bl_tuple ?_ | with_reducible refine rd_isi_str_int ?_ | with_reducible refine rd_isi_str_bool ?_ | with_reducible refine rd_isi_str_str ?_ | with_reducible refine rd_isi_str_list ?_ | with_reducible refine rd_isi_str_tuple ?_ | with_reducible refine rd_isi_non_int ?_ | with_reducible refine rd_isi_non_bool ?_ | with_reducible refine rd_isi_non_str ?_ | with_reducible refine rd_isi_non_list ?_ | with_reducible refine rd_isi_non_tuple ?_)
local macro_rules | `(tactic| walk_at "rd_Fl") => `(tactic| repeat walk_at "rd1_Fl")
local macro_rules | `(tactic| walk_at "same_Fl") => `(tactic| first | assumption | exact Same.refl _ | (refine Same.new ?_ (by assumption); walk_at "same_Fl") | (refine Same.mut ?_ (by assumption); walk_at "same_Fl") | (refine Same.trans ?_ (by assumption); walk_at "same_Fl"))
local macro_rules | `(tactic| walk_at "zl_Fl") => `(tactic| (rw [sizeLine_eq]; first | decide | (simp only [List.length_cons, List.length_nil]; omega) | omega))
local macro_rules | `(tactic| walk_at "sm_Fl") => `(tactic| first | exact Same.refl _ | assumption | ((with_reducible refine' Same.trans ?sx ?sy); (case sy => assumption); (case sx => walk_at "sm_Fl")))
local macro_rules | `(tactic| walk_at "kp_Fl") => `(tactic| first | exact Kp.refl | assumption | ((with_reducible refine' Kp.trans ?kx ?ky); (case ky => assumption); (case kx => walk_at "kp_Fl")) | ((with_reducible refine' Kp.trans ?kx (Kp.same ?ky)); (case ky => assumption); (case kx => walk_at "kp_Fl")))
local macro_rules | `(tactic| walk_at "tx_Fl") => `(tactic| first | assumption | ((with_reducible refine' TX.kp ?tx1 ?tx2); (case tx1 => assumption); (case tx2 => walk_at "kp_Fl")))
local macro_rules | `(tactic| walk_at "ts_Fl") => `(tactic| first | assumption | ((with_reducible refine' TS'.kp ?tx1 ?tx2); (case tx1 => assumption); (case tx2 => walk_at "kp_Fl")) | ((with_reducible refine' ts_nil ?tx1); (case tx1 => assumption)))
local macro_rules | `(tactic| walk_at "sx_Fl") => `(tactic| first | assumption | ((with_reducible refine' SX.kp ?tx1 ?tx2); (case tx1 => assumption); (case tx2 => walk_at "kp_Fl")) | ((with_reducible refine' TS'.sx ?tx1); (case tx1 => walk_at "ts_Fl")))
local macro_rules | `(tactic| walk_at "row_Fl") => `(tactic| first | assumption | ((with_reducible refine' RowAt.mono ?tx1 ?tx2); (case tx1 => assumption); (case tx2 => walk_at "sm_Fl")))
local macro_rules | `(tactic| walk_at "ls_Fl") => `(tactic| first | assumption | ((with_reducible refine' kp_natV ?tx1 ?tx2); (case tx1 => assumption); (case tx2 => walk_at "kp_Fl")) | ((with_reducible refine' kp_sgV ?tx1 ?tx2); (case tx1 => assumption); (case tx2 => walk_at "kp_Fl")) | ((refine' Same.lk ?tx1 ?tx2); (case tx1 => assumption); (case tx2 => walk_at "sm_Fl")))
local macro_rules | `(tactic| walk_at "om_Fl") => `(tactic| first | omega | with_reducible assumption)
local macro_rules | `(tactic| walk_at "rd1_Fl") => `(tactic| first
  | with_reducible refine rd_cons ?_ | ((with_reducible refine' rd_var ?k1 ?_); (case k1 => rfl)) | with_reducible refine rd_C ?_ | with_reducible refine rd_nil ?_ | with_reducible refine rd_op ?_ | with_reducible refine rd_g ?_
  | ((with_reducible refine' rd_nameE ?k1 ?_); (case k1 => (dsimp only [List.set_cons_zero, List.set_cons_succ]; exact rfl))) | with_reducible refine rd_asg ?_ | with_reducible refine rd_seq ?_ | with_reducible refine rd_andrfl ?_ | with_reducible refine rd_prop ?_ | with_reducible refine rd_cb ?_ | with_reducible refine rd_test ?_ | with_reducible refine rd_bl ?_ | with_reducible refine rd_ifS ?_ | with_reducible refine rd_next ?_
  | with_reducible refine rd_tupN ?_ | with_reducible refine rd_lstN ?_ | with_reducible refine rd_add_int ?_ | with_reducible refine rd_sub ?_ | with_reducible refine rd_tB ?_ | with_reducible refine rd_not ?_ | with_reducible refine rd_and ?_ | with_reducible refine rd_or ?_ | with_reducible refine rd_ret ?_ | with_reducible refine rd_cmeth ?_ | with_reducible refine rd_o ?_ | with_reducible refine rd_I0 ?_
  | ((with_reducible show @Eq (Option HO) _ Option.none → _); intro) | with_reducible refine rd_m1 ?_ | with_reducible refine rd_exStr ?_ | ((with_reducible refine' rd_iNat ?k1 ?_); (case k1 => walk_at "ls_Fl"))
  | ((with_reducible refine' rd_taken ?k1 ?k2 ?k3 ?_); (case k1 => walk_at "row_Fl"); (case k2 => walk_at "om_Fl"); (case k3 => walk_at "om_Fl"))
  | ((with_reducible refine' rd_word ?k1 ?k2 ?k3 ?_); (case k1 => walk_at "row_Fl"); (case k2 => walk_at "om_Fl"); (case k3 => walk_at "om_Fl"))
  | ((with_reducible refine' rd_stepsL ?k1 ?k2 ?k3 ?k4 ?k5 ?_); (case k1 => walk_at "row_Fl"); (case k2 => walk_at "om_Fl"); (case k3 => walk_at "om_Fl"); (case k4 => walk_at "om_Fl"); (case k5 => walk_at "om_Fl"))
  | ((with_reducible refine' rd_listS ?k1 ?_); (case k1 => walk_at "ts_Fl"))
  | ((with_reducible refine' rd_ofSteps ?k1 ?k2 ?k3 ?_); (case k1 => walk_at "sx_Fl"); (case k2 => walk_at "om_Fl"); (case k3 => walk_at "om_Fl"))
  | ((with_reducible refine' rd_pSize ?k1 ?_); (case k1 => walk_at "tx_Fl"))
  | ((with_reducible refine' rd_pTyped ?k1 ?_); (case k1 => walk_at "tx_Fl"))
  | ((with_reducible refine' rd_pSteps ?k1 ?_); (case k1 => walk_at "tx_Fl"))
  | ((with_reducible refine' rd_oCall ?k1 ?k2 ?k3 ?_); (case k1 => walk_at "tx_Fl"); (case k2 => walk_at "om_Fl"); (case k3 => walk_at "om_Fl"))
  | ((with_reducible refine' rd_oItem ?k1 ?k2 ?k3 ?_); (case k1 => walk_at "tx_Fl"); (case k2 => walk_at "om_Fl"); (case k3 => walk_at "om_Fl"))
  | ((with_reducible refine' rd_opAdd ?k1 ?k2 ?k3 ?k4 ?_); (case k1 => walk_at "tx_Fl"); (case k2 => walk_at "tx_Fl"); (case k3 => walk_at "om_Fl"); (case k4 => walk_at "om_Fl"))
  | ((with_reducible refine' rd_opMul ?k1 ?k2 ?k3 ?k4 ?k5 ?_); (case k1 => walk_at "tx_Fl"); (case k2 => walk_at "om_Fl"); (case k3 => walk_at "om_Fl"); (case k4 => walk_at "om_Fl"); (case k5 => walk_at "om_Fl"))
  | ((with_reducible refine' rd_opEq ?k1 ?k2 ?_); (case k1 => walk_at "tx_Fl"); (case k2 => walk_at "tx_Fl"))
  | ((with_reducible refine' rd_opEqT ?k1 ?k2 ?_); (case k1 => walk_at "tx_Fl"); (case k2 => walk_at "ts_Fl"))
  | ((with_reducible refine' rd_opNe ?k1 ?k2 ?_); (case k1 => walk_at "tx_Fl"); (case k2 => walk_at "tx_Fl"))
  | ((with_reducible refine' rd_mTx ?k1 ?k2 ?_); (case k1 => walk_at "tx_Fl"); (case k2 => decide +kernel))
  | ((with_reducible refine' rd_mRetyped ?k1 ?k2 ?k3 ?_); (case k1 => walk_at "tx_Fl"); (case k2 => walk_at "om_Fl"); (case k3 => walk_at "om_Fl"))
  | ((with_reducible refine' rd_eqTT ?k1 ?k2 ?k3 ?k4 ?_); (case k1 => walk_at "ts_Fl"); (case k2 => walk_at "ts_Fl"); (case k3 => first | assumption | trivial); (case k4 => first | assumption | trivial))
  | ((with_reducible refine' rd_neTT ?k1 ?k2 ?k3 ?k4 ?_); (case k1 => walk_at "ts_Fl"); (case k2 => walk_at "ts_Fl"); (case k3 => first | assumption | trivial); (case k4 => first | assumption | trivial))
  | ((with_reducible refine' rd_neNN ?k1 ?k2 ?_); (case k1 => walk_at "ls_Fl"); (case k2 => walk_at "ls_Fl"))
  | ((with_reducible refine' rd_eqNN ?k1 ?k2 ?_); (case k1 => walk_at "ls_Fl"); (case k2 => walk_at "ls_Fl"))
  | ((with_reducible refine' rd_lenN ?k1 ?_); (case k1 => walk_at "ls_Fl"))
  | ((with_reducible refine' rd_lenS ?k1 ?_); (case k1 => walk_at "om_Fl"))
  | ((with_reducible refine' rd_ixN ?k1 ?k2 ?k3 ?_); (case k1 => walk_at "ls_Fl"); (case k2 => walk_at "om_Fl"); (case k3 => walk_at "om_Fl"))
  | ((with_reducible refine' rd_ixC ?k1 ?k2 ?k3 ?_); (case k1 => walk_at "om_Fl"); (case k2 => walk_at "om_Fl"); (case k3 => walk_at "om_Fl"))
  | ((with_reducible refine' rd_gtup ?k1 ?k2 ?_); (case k1 => exact SqT.of (by assumption)); (case k2 => rfl))
  | ((with_reducible refine' rd_new ?k1 ?_); (case k1 => walk_at "zl_Fl"))
  | with_reducible refine rd_ref1 ?_
  | with_reducible refine rd_nF rfl ?_ | with_reducible refine rd_dT rfl ?_ | with_reducible refine rd_cT rfl ?_ | with_reducible refine rd_cF rfl ?_
  | ((with_reducible refine' rd_dT ?k1 ?_); (case k1 => omega)) | ((with_reducible refine' rd_dF ?k1 ?_); (case k1 => omega)) | ((with_reducible refine' rd_nT ?k1 ?_); (case k1 => omega)) | ((with_reducible refine' rd_nF ?k1 ?_); (case k1 => omega)))
local macro_rules | `(tactic| walk_at "rdS_Fl") => `(tactic| repeat ((fail_if_success with_reducible show tIfS _ _ _ _ _ _); walk_at "rd1_Fl"))
local macro_rules | `(tactic| walk_at "kl_Fl") => `(tactic| first | exact Kl.refl | assumption | ((with_reducible refine' Kl.trans ?kx ?ky); (case ky => assumption); (case kx => walk_at "kl_Fl")) | ((with_reducible refine' Kl.trans ?kx (Kl.kp ?ky)); (case ky => assumption); (case kx => walk_at "kl_Fl")) | ((with_reducible refine' Kl.trans ?kx (Kx.kl ?ky)); (case ky => assumption); (case kx => walk_at "kl_Fl")) | ((with_reducible refine' Kl.trans ?kx (Kl.same ?ky)); (case ky => assumption); (case kx => walk_at "kl_Fl")))
local macro_rules | `(tactic| walk_at "tx_Fl") => `(tactic| first | assumption | ((with_reducible refine' TX.kl ?tx1 ?tx2); (case tx1 => assumption); (case tx2 => walk_at "kl_Fl")))
local macro_rules | `(tactic| walk_at "ts_Fl") => `(tactic| first | assumption | ((with_reducible refine' TS'.kl ?tx1 ?tx2); (case tx1 => assumption); (case tx2 => walk_at "kl_Fl")) | ((with_reducible refine' ts_nil ?tx1); (case tx1 => assumption)))
local macro_rules | `(tactic| walk_at "sx_Fl") => `(tactic| first | assumption | ((with_reducible refine' SX.kl ?tx1 ?tx2); (case tx1 => assumption); (case tx2 => walk_at "kl_Fl")) | ((with_reducible refine' TS'.sx ?tx1); (case tx1 => walk_at "ts_Fl")))
local macro_rules | `(tactic| walk_at "row_Fl") => `(tactic| first | assumption | ((with_reducible refine' RowAt.mono ?tx1 ?tx2); (case tx1 => walk_at "row_Fl"); (case tx2 => walk_at "sm_Fl")) | ((with_reducible refine' Kx.row ?tx2 ?tx1); (case tx2 => assumption); (case tx1 => walk_at "row_Fl")))
local macro_rules | `(tactic| walk_at "ls_Fl") => `(tactic| first | assumption | ((with_reducible refine' kl_natV ?tx1 ?tx2); (case tx1 => assumption); (case tx2 => walk_at "kl_Fl")) | ((with_reducible refine' kl_sgV ?tx1 ?tx2); (case tx1 => assumption); (case tx2 => walk_at "kl_Fl")) | ((refine' Same.lk ?tx1 ?tx2); (case tx1 => assumption); (case tx2 => walk_at "sm_Fl")))
local macro_rules | `(tactic| walk_at "tb_Fl") => `(tactic| first | assumption | ((with_reducible refine' Kl.tabs ?tx2 ?tx1); (case tx1 => assumption); (case tx2 => walk_at "kl_Fl")))
local macro_rules | `(tactic| walk_at "rd1_Fl") => `(tactic| first | with_reducible refine rd_p9 ?_ | ((with_reducible refine' rd_stepsQ ?k1 ?k2 ?k3 ?k4 ?k5 ?_); (case k1 => walk_at "row_Fl"); (case k2 => omega); (case k3 => omega); (case k4 => omega); (case k5 => omega)))
section
variable {P : Program} {w : World} {K : PySem.W.Frag} {mg : Str → Option Value} {base : Heap} {CText CPart CEditor CDecoder CTextError CInvalidStep CInvalidOperation CDecodeError CNotationError CTooLong CInvalidPlace CInvalidLetter CContradiction CInvalidCount c_law p_law : Addr}
theorem ok_law (T : Txt K mg CText CPart CEditor CDecoder CTextError CInvalidStep CInvalidOperation CDecodeError CNotationError CTooLong CInvalidPlace CInvalidLetter CContradiction CInvalidCount c_law p_law) (LB : Lms K mg base c_law p_law) {f : Addr} {fd : FuncData} (F : FunC K "law" "law" s_law c_law f fd) : FnOk P w K mg base CX0 73 f fd ["_law_script"] (sp_lawL K (TL p_law)) := by
  refine F.ok sc_law (fun vs H Q E h => ?len) (fun A outer s H vs Q E hr h => ?_)
  case len => obtain ⟨a, sc, rfl, _⟩ := h; rfl
  · obtain ⟨a, sc, rfl, ha, tab, k⟩ := h
    refine ⟨_, (pss_cons (ps_set (i := 1) sc_law.nd rfl (Or.inl rfl) (pe_g (ok_x_law_dice (K := K) T) (hr.mono (by decide)) pass0 (pa_cons (pv 0) pa_nil)))
    (pss_cons (ps_for PassesOwn.never rfl (pi_range1 rfl T.n_range (pa_cons pe_int pa_nil)) (pg_name (i := 2) sc_law.nd rfl (Or.inl rfl)) (pss_cons (ps_set (i := 3) sc_law.nd rfl (Or.inl rfl) (pe_g (ok_x_law_some (K := K) T) (hr.mono (by decide)) pass0 (pa_cons (pv 1) (pa_cons pe_int (pa_cons (pe_ix (ixK (K := K) rfl) (pe_lst (pa_cons pe_int (pa_cons (pe_op op_pow pe_int pe_int) pa_nil))) (pe_g (ok_x_law_next (K := K) T) (hr.mono (by decide)) pass0 (pa_cons (pv 1) (pa_cons pe_int pa_nil))) (fun _ _ => rfl)) pa_nil)))))
    (pss_cons (ps_set (i := 4) sc_law.nd rfl (Or.inl rfl) (pe_g (ok_x_law_closed (K := K) T) (hr.mono (by decide)) pass0 (pa_cons (pe_g (ok_x_law_values (K := K) T) (hr.mono (by decide)) pass0 (pa_cons (pv 3) pa_nil)) pa_nil)))
    (pss_cons (ps_set (i := 5) sc_law.nd rfl (Or.inl rfl) (pe_g (ok_encode_text (K := K) T) (hr.mono (by decide)) pass0 (pa_cons (pe_g (ok_x_law_made (K := K) T) (hr.mono (by decide)) pass0 (pa_cons (pv 3) pa_nil)) pa_nil)))
    (pss_cons (ps_if (PW.pt (pw_or (pt_cmpR (neK (K := K) rfl hr.units) (pe_g (ok_unpack_bytes (K := K) T) (hr.mono (by decide)) pass0 (pa_cons (pv 5) pa_nil)) (pv 4) (nomark _)) (pw_or1 (pt_cmpR (neK (K := K) rfl hr.units) (pe_p (pe_g (ok_decode_text (K := K) T) (hr.mono (by decide)) pass0 (pa_cons (pv 5) pa_nil)) T.cText (ok_Text_steps (K := K) T) (hr.mono (by decide)) pass0) (pe_callTy (tupK (K := K) rfl) rfl T.n_tuple (by decide +kernel) (pa_cons (pv 3) pa_nil)) (nomark _))))) (pss_one (ps_ret pe_bl))
    pss_nil)
    (pss_cons (ps_par (i := 6) (j := 7) rfl sc_law.nd rfl rfl (by decide) rfl rfl (pa_cons (pe_g (ok_x_law_next (K := K) T) (hr.mono (by decide)) pass0 (pa_cons (pv 1) (pa_cons (pe_callB (lenK (K := K) rfl) rfl T.n_len (by decide +kernel) (pa_cons (pv 4) pa_nil)) pa_nil))) (pa_cons (pe_g (ok_x_law_next (K := K) T) (hr.mono (by decide)) pass0 (pa_cons (pv 1) (pa_cons pe_int pa_nil))) pa_nil)) rfl)
    (pss_cons (ps_set (i := 8) sc_law.nd rfl (Or.inl rfl) (pe_g (ok_x_law_pick (K := K) T) (hr.mono (by decide)) pass0 (pa_cons (pv 1) (pa_cons (pe_lst (pa_cons (pe_ix (ixK (K := K) rfl) (pv 4) (pv 6) (fun _ _ => rfl)) (pa_cons pe_int (pa_cons pe_int (pa_cons pe_int (pa_cons pe_int (pa_cons pe_int (pa_cons (pe_g (ok_x_law_next (K := K) T) (hr.mono (by decide)) pass0 (pa_cons (pv 1) (pa_cons pe_int pa_nil))) (pa_cons pe_int (pa_cons pe_int (pa_cons pe_int (pa_cons pe_int pa_nil)))))))))))) pa_nil))))
    (pss_cons (ps_if (pt_cmpR (eqK (K := K) rfl hr.units) (pv 7) pe_int (nomark _)) (pss_one (ps_set (i := 9) sc_law.nd rfl (Or.inr rfl) (pe_slice (slK (K := K) rfl) (pv 4) po_none (po_some (pv 6)))))
    (pss_one (ps_if (pt_cmpR (eqK (K := K) rfl hr.units) (pv 7) pe_int (nomark _)) (pss_one (ps_set (i := 9) sc_law.nd rfl (Or.inr rfl) (pe_op (addK (K := K) rfl) (pe_op (addK (K := K) rfl) (pe_slice (slK (K := K) rfl) (pv 4) po_none (po_some (pv 6))) (pe_lst (pa_cons (pv 8) pa_nil))) (pe_slice (slK (K := K) rfl) (pv 4) (po_some (pe_op (addK (K := K) rfl) (pv 6) pe_int)) po_none))))
    (pss_one (ps_if (pt_cmpR (eqK (K := K) rfl hr.units) (pv 7) pe_int (nomark _)) (pss_one (ps_set (i := 9) sc_law.nd rfl (Or.inr rfl) (pe_op (addK (K := K) rfl) (pv 4) (pe_lst (pa_cons (pv 8) pa_nil)))))
    (pss_cons (ps_set (i := 10) sc_law.nd rfl (Or.inl rfl) (pe_slice (slK (K := K) rfl) (pv 4) (po_some (pe_op (addK (K := K) rfl) (pv 6) (pe_callTy cInt rfl T.n_int (by decide +kernel) (pa_cons (pe_cmpR (eqK (K := K) rfl hr.units) (pv 7) pe_int (nomark _)) pa_nil)))) po_none))
    (pss_one (ps_set (i := 9) sc_law.nd rfl (Or.inr rfl) (pe_g (ok_x_law_closed (K := K) T) (hr.mono (by decide)) pass0 (pa_cons (pe_slice (slK (K := K) rfl) (pe_op (addK (K := K) rfl) (pe_op (addK (K := K) rfl) (pe_slice (slK (K := K) rfl) (pv 4) po_none (po_some (pv 6))) (pe_lst (pa_cons (pv 8) pa_nil))) (pv 10)) po_none (po_some (pe_un un_neg pe_int))) pa_nil))))))))))
    (pss_cons (ps_if (pt_cmpR (neK (K := K) rfl hr.units) (pe_giv (k := 70) T.d_x_law_told sc_x_law_told (fun g cdg => gv_x_law_told T g cdg) (hr.mono (by decide)) (pe_lam (T := (TL p_law)) (k := 70) LB.tb_law rfl (.head _) LB.hu_law (lamC_by (N := N_law) (sc := defScope s_law) (by decide +kernel)) (fun A outer s H E f c' hr => (pe_p (pe_g (okR_decode_text (K := K) T) (hr.mono (by decide)) (passX (takes_of rfl rfl rfl rfl)) (pa_cons (pe_g (ok_pack_bytes (K := K) T) (hr.mono (by decide)) pass0 (pa_cons (pv 9) pa_nil)) pa_nil)) T.cText (ok_Text_steps (K := K) T) (hr.mono (by decide)) pass0)))) (pe_g (ok_x_law_decoded (K := K) T) (hr.mono (by decide)) pass0 (pa_cons (pv 9) pa_nil)) (nomark _)) (pss_one (ps_ret pe_bl))
    pss_nil)
    (pss_cons (ps_set (i := 11) sc_law.nd rfl (Or.inr rfl) (pe_g (ok_x_law_pick (K := K) T) (hr.mono (by decide)) pass0 (pa_cons (pv 1) (pa_cons (pe_lst (pa_cons (pe_lst (pa_cons pe_int pa_nil)) (pa_cons (pe_lst (pa_cons (pe_un un_neg pe_int) pa_nil)) (pa_cons (pe_lst (pa_cons pe_bl pa_nil)) (pa_cons pe_non (pa_cons (pe_tup (pa_cons pe_int (pa_cons pe_int pa_nil))) (pa_cons (pe_lst (pa_cons pe_int (pa_cons pe_str pa_nil))) pa_nil))))))) pa_nil))))
    (pss_one (ps_if (pt_cmpR (neK (K := K) rfl hr.units) (pe_giv (k := 70) T.d_x_law_told sc_x_law_told (fun g cdg => gv_x_law_told T g cdg) (hr.mono (by decide)) (pe_lamD (T := (TL p_law)) (k := 70) (b := "_law_a") LB.tb_law rfl (.head _) LB.hu_law (lamC_by (N := N_law) (sc := defScope s_law) (by decide +kernel)) rfl rfl pe_int (fun A outer s H E f c' hr => (pe_g (okR_pack_bytes (K := K) T) (hr.mono (by decide)) (passX (takes_of rfl rfl rfl rfl)) (pa_cons (pv 11) pa_nil))) (fun _ _ _ _ _ _ _ _ => ⟨_, rfl, rfl⟩))) (pe_tup (pa_cons pe_str (pa_cons pe_str pa_nil))) (nomark _)) (pss_one (ps_ret pe_bl))
    pss_nil))))))))))))
    (pss_one (ps_ret pe_bl)))), ?_⟩
    refine rd_startE (show start N_law [.ref a] = [some (.ref a), none, none, none, none, none, none, none, none, none, none, none] from rfl) ?_
    walk_at "rd_Fl"
    refine rd_dice ha fun r H0 S0 _ row0 => ?_
    have tab0 := (Kl.same S0).tabs tab
    clear ha tab
    walk_at "rd_Fl"
    refine ⟨_, rfl, by omega, by omega, for_range (n := 6) (fun i σ H' => ∃ v2 v3 v4 v5 v6 v7 v8 v9 v10 v11, σ = [some (.ref a), some (.ref r), v2, v3, v4, v5, v6, v7, v8, v9, v10, v11] ∧ RowAt K H' r ∧ LamX.Tabs (TL p_law) H') ⟨_, _, _, _, _, _, _, _, _, _, rfl, row0, tab0⟩ ?_ ?_⟩
    · rintro i σ H1 hi ⟨v2, v3, v4, v5, v6, v7, v8, v9, v10, v11, rfl, row1, tab1⟩
      walk_at "rd_Fl"
      refine rd_I ⟨by decide, by decide, by decide⟩ ?_
      rw [show (10 : Int) ^ (4 : Int).toNat = 10000 by decide +kernel]
      walk_at "rd_Fl"
      intro lm Hm Sm em _
      walk_at "rd_Fl"
      refine rd_nextD (row1.mono Sm) (by decide) (by decide) fun n H2 hn k2 row2 => ?_
      have tab2 := (Kl.kp k2).tabs ((Kl.same Sm).tabs tab1)
      obtain ⟨mo, hmo, hm1, hm2⟩ : ∃ m : Nat, [V.int 3, V.int 10000][n]? = some (.int (m : Nat)) ∧ 1 ≤ m ∧ m ≤ 10000 := by
        match n, hn with
        | 0, _ => exact ⟨3, rfl, by decide, by decide⟩
        | 1, _ => exact ⟨10000, rfl, by decide, by decide⟩
        | n + 2, hn => omega
      have em2 : H2 lm = some (.lst [V.int 3, V.int 10000]) := k2 _ _ (nr_vals (by simp [isRef])) em
      refine rd_ixLn (SqL.of em2) hmo ?_
      walk_at "rd_Fl"
      refine rd_some row2 (by decide) (by decide) (by omega) (by omega) fun l ms ss H3 k3 row3 el st ok z1 few zb L => ?_
      have tab3 := (Kl.kp k3).tabs tab2
      clear em em2 Sm row1 row2 tab1 tab2 k2 k3
      have len6 : ss.length ≤ 6 := by omega
      have few30 : ss.length ≤ 30 := by omega
      have B := encT_Byt ok few30
      walk_at "rd_Fl"
      refine rd_values49 el st ok few30 fun p4 H4 S4 n4 e4 => ?_
      walk_at "rd_Fl"
      refine rd_closed e4 (by have := encV_len ok few30; omega) fun p5 H5 S5 n5 e5 => ?_
      have e5 : H5 p5 = some (.lst (natV (encT ss))) := e5
      walk_at "rd_Fl"
      have S45 := S4.trans S5
      refine rd_made (SqL.of (S45 _ _ el)) (st.mono S45) ok few30 fun x H6 S6 T6 => ?_
      walk_at "rd_Fl"
      refine rd_encode T6 fun H7 S7 => ?_
      walk_at "rd_Fl"
      refine rd_unpack B fun p8 H8 S8 n8 e8 => ?_
      walk_at "rd_Fl"
      have e58 := S8 _ _ (S7 _ _ (S6 _ _ e5))
      refine rd_decode0 ok few30 fun y H9 S9 n9 T9 => ?_
      walk_at "rd_Fl"
      intro sp tsp
      walk_at "rd_Fl"
      have S69 := ((S6.trans S7).trans S8).trans S9
      refine rd_tupLS (SqL.of (S69 _ _ (S45 _ _ el))) ((st.mono S45).mono S69) fun q10 H10 S10 t10 => ?_
      walk_at "rd_Fl"
      have e10 := S10 _ _ (S9 _ _ e58)
      have row10 := ((row3.mono S45).mono S69).mono S10
      have tab10 := (Kl.same ((S45.trans S69).trans S10)).tabs tab3
      have hlen := B.1
      have hpos : 1 ≤ (encT ss).length := by unfold encT; simp
      have hle := encT_len ok few30
      clear e4 e5 e58 e8 T6 T9 el st t10 tsp S4 S5 S45 S6 S7 S8 S9 S69 S10 n4 n5 n8 n9 row3 tab3
      generalize encT ss = V0 at *
      refine rd_nextD row10 (by omega) (by omega) fun kk H11 hkk k11 row11 => ?_
      walk_at "rd_Fl"
      refine rd_nextD row11 (by decide) (by decide) fun pk H12 hpk k12 row12 => ?_
      have e12 := k12 _ _ nr_natV (k11 _ _ nr_natV e10)
      have tab12 := (Kl.kp k12).tabs ((Kl.kp k11).tabs tab10)
      obtain ⟨xk, hxk⟩ : ∃ x, V0[kk]? = some x := ⟨_, List.getElem?_eq_getElem (by omega)⟩
      have hx8 := B.2 _ (List.mem_of_getElem? hxk)
      walk_at "rd_Fl"
      rw [show V0[((kk : Nat) : Int).toNat]?.getD 0 = xk by rw [Int.toNat_natCast, hxk]; rfl]
      refine rd_nextD row12 (by decide) (by decide) fun m H13 hm k13 row13 => ?_
      walk_at "rd_Fl"
      intro po H14 S14 e14 _
      walk_at "rd_Fl"
      refine rd_pick (row13.mono S14) (SqL.of e14) (nr_vals (by simp [isRef])) (by show 1 ≤ 11; decide) (by show 11 ≤ 1000; decide) fun no vo H15 hvo k15 row15 => ?_
      obtain ⟨o1, rfl, ho1⟩ := odd8 hx8 (by omega) hvo
      have e15 := k15 _ _ nr_natV (S14 _ _ (k13 _ _ nr_natV e12))
      have tab15 := (Kl.kp k15).tabs ((Kl.same S14).tabs ((Kl.kp k13).tabs tab12))
      clear e10 e12 e14 hvo row10 row11 row12 row13 tab10 tab12 k11 k12 k13 S14 k15
      walk_at "rdS_Fl"
      refine rd_ifSJ8 (fun σ' Hc => ∃ v2 v3 v4 v5 v6 v7 v8 v10 v11 lb L, σ' = [some (.ref a), some (.ref r), v2, v3, v4, v5, v6, v7, v8, some (.ref lb), v10, v11] ∧ RowAt K Hc r ∧ LamX.Tabs (TL p_law) Hc ∧ Hc lb = some (.lst (natV L)) ∧ Byt L) ?_ fun nx' hnx => ?_
      · clear e15 row15 tab15
        rintro σ' Hc ⟨v2, v3, v4, v5, v6, v7, v8, v10, v11, lb, L, rfl, row, tab, eb, BL⟩
        walk_at "rd_Fl"
        refine rd_giv tab fun H2 x2 => ?_
        have row2 := x2.row row
        have tab2 := x2.tabs tab
        have eb2 := x2.keep _ _ (fun _ z => by cases z) eb
        refine rd_decodeT rfl eb2 BL T.z_DecodeError T.zf_DecodeError_offset fun v H3 S3 du3 => ?_
        walk_at "rd_Fl"
        refine rd_decoded (S3 _ _ eb2) BL fun u H4 S4 du4 => ?_
        refine rd_neDu (du3.mono S4) du4 (fun ss o h => (decD_ok h).1) ?_
        have row4 := (row2.mono S3).mono S4
        have tab4 := (Kl.same (S3.trans S4)).tabs tab2
        clear row2 tab2 eb2 row tab eb du3 du4
        walk_at "rd_Fl"
        intro p1 J1 R1 g1 _
        walk_at "rd_Fl"
        intro p2 J2 R2 g2 _
        walk_at "rd_Fl"
        intro p3 J3 R3 g3 _
        walk_at "rd_Fl"
        intro p4 J4 R4 g4 _
        walk_at "rd_Fl"
        intro p5' J5 R5 g5 _
        walk_at "rd_Fl"
        intro p6 J6 R6 g6 _
        have R45 := R4.trans (R5.trans R6)
        have g1 := R45 _ _ (R3 _ _ (R2 _ _ g1))
        have g2 := R45 _ _ (R3 _ _ g2)
        have g3 := R45 _ _ g3
        have g4 := R6 _ _ (R5 _ _ g4)
        have g5 := R6 _ _ g5
        have SS := (((S3.trans S4).trans R1).trans (R2.trans R3)).trans R45
        have row5 := row4.mono ((R1.trans (R2.trans R3)).trans R45)
        have tab5 := (Kl.same ((R1.trans (R2.trans R3)).trans R45)).tabs tab4
        walk_at "rd_Fl"
        refine rd_pick row5 (SqL.of g6) (fun h => h) (by show 1 ≤ 6; decide) (by show 6 ≤ 1000; decide) fun no vo J7 hvo k7 row7 => ?_
        have g1 := k7 _ _ (nr_vals (by simp [isRef])) g1
        have g2 := k7 _ _ (nr_vals (by simp [isRef])) g2
        have g3 := k7 _ _ (nr_vals (by simp [isRef])) g3
        have g4 := k7 _ _ nr_tup g4
        have g5 := k7 _ _ (nr_vals (by simp [isRef])) g5
        have tab7 := (Kl.kp k7).tabs tab5
        have bp : BadPk K J7 vo := by
          have hm := List.mem_of_getElem? hvo
          simp only [List.mem_cons, List.not_mem_nil, or_false] at hm
          rcases hm with rfl | rfl | rfl | rfl | rfl | rfl
          · exact .inr (.inr ⟨_, _, rfl, g1, by show 1 ≤ 1000; decide, fun x hx => by rw [List.mem_singleton.mp hx]; trivial, _, .head _, rfl⟩)
          · exact .inr (.inr ⟨_, _, rfl, g2, by show 1 ≤ 1000; decide, fun x hx => by rw [List.mem_singleton.mp hx]; trivial, _, .head _, rfl⟩)
          · exact .inr (.inr ⟨_, _, rfl, g3, by show 1 ≤ 1000; decide, fun x hx => by rw [List.mem_singleton.mp hx]; trivial, _, .head _, rfl⟩)
          · exact .inl rfl
          · exact .inr (.inl ⟨_, _, rfl, SqT.of g4⟩)
          · refine .inr (.inr ⟨_, _, rfl, g5, by show 2 ≤ 1000; decide, fun x hx => ?_, _, .tail _ (.head _), rfl⟩)
            simp only [List.mem_cons, List.not_mem_nil, or_false] at hx
            rcases hx with rfl | rfl <;> trivial
        clear g1 g2 g3 g4 g5 g6 row4 row5 tab4 tab5 k7 hvo
        walk_at "rd_Fl"
        refine rd_giv tab7 fun J8 x8 => ?_
        refine rd_packT rfl (badPk_kx bp x8) T.z_InvalidCount fun p9 J9 S9 e9 => ?_
        walk_at "rd_Fl"
        intro p10 J10 S10 e10 _
        refine rd_neE2 (S10 _ _ e9) e10 (by decide +kernel) (by decide +kernel) ?_
        walk_at "rd_Fl"
        exact ⟨_, _, _, _, _, _, _, _, _, _, rfl, ((x8.row row7).mono S9).mono S10, (Kl.same (S9.trans S10)).tabs (x8.tabs tab7)⟩
      · rcases (by omega : pk = 0 ∨ pk = 1 ∨ pk = 2 ∨ pk = 3 ∨ pk = 4) with rfl | rfl | rfl | rfl | rfl
        · walk_at "rd_Fl"
          refine rd_slNto e15 fun p16 H16 S16 e16 => ?_
          walk_at "rd_Fl"
          exact hnx _ _ ⟨_, _, _, _, _, _, _, _, _, p16, _, rfl, row15.mono S16, (Kl.same S16).tabs tab15, e16, B.take kk⟩
        · walk_at "rd_Fl"
          refine rd_slNto e15 fun p16 H16 S16 e16 => ?_
          walk_at "rd_Fl"
          intro p17 H17 S17 e17 _
          refine rd_addLk (S17 _ _ e16) e17 (by rw [natV_len, List.length_take, sizeLine_eq]; show _ + 1 ≤ _; omega) fun p18 H18 S18 n18 e18 => ?_
          have e18 : H18 p18 = some (.lst (natV (V0.take kk ++ [o1]))) := by rw [e18, natV_snoc]
          walk_at "rd_Fl"
          rw [show ((kk : Nat) : Int) + 1 = ((kk + 1 : Nat) : Int) by omega]
          refine rd_slFrom (S18 _ _ (S17 _ _ (S16 _ _ e15))) fun p19 H19 S19 n19 e19 => ?_
          refine rd_addLk (S19 _ _ e18) e19 (by rw [natV_len, natV_len, List.length_append, List.length_take, List.length_drop, sizeLine_eq]; show _ + 1 + _ ≤ _; omega) fun p20 H20 S20 n20 e20 => ?_
          rw [natV_app8] at e20
          walk_at "rd_Fl"
          have SS := (S16.trans S17).trans ((S18.trans S19).trans S20)
          exact hnx _ _ ⟨_, _, _, _, _, _, _, _, _, p20, _, rfl, row15.mono SS, (Kl.same SS).tabs tab15, e20, ((B.take kk).app (mem_one8 ho1) (by rw [List.length_take]; show _ + 1 ≤ _; omega)).app (B.drop8 _).2 (by rw [List.length_append, List.length_take, List.length_drop]; show _ + 1 + _ ≤ _; omega)⟩
        · walk_at "rd_Fl"
          rw [show ((kk : Nat) : Int) + (if decide (((2 : Nat) : Int) = 2) = true then 1 else 0) = ((kk + 1 : Nat) : Int) by simp]
          refine rd_slFrom e15 fun p16 H16 S16 n16 e16 => ?_
          walk_at "rd_Fl"
          refine rd_slNto (S16 _ _ e15) fun p17 H17 S17 e17 => ?_
          walk_at "rd_Fl"
          intro p18 H18 S18 e18 _
          refine rd_addLk (S18 _ _ e17) e18 (by rw [natV_len, List.length_take, sizeLine_eq]; show _ + 1 ≤ _; omega) fun p19 H19 S19 n19 e19 => ?_
          have e19 : H19 p19 = some (.lst (natV (V0.take kk ++ [o1]))) := by rw [e19, natV_snoc]
          walk_at "rd_Fl"
          refine rd_addLk e19 (S19 _ _ (S18 _ _ (S17 _ _ e16))) (by rw [natV_len, natV_len, List.length_append, List.length_take, List.length_drop, sizeLine_eq]; show _ + 1 + _ ≤ _; omega) fun p20 H20 S20 n20 e20 => ?_
          rw [natV_app8] at e20
          walk_at "rd_Fl"
          refine rd_slDropLast e20 fun p21 H21 S21 e21 => ?_
          walk_at "rd_Fl"
          have hB : Byt (V0.take kk ++ [o1] ++ V0.drop (kk + 1)) := ((B.take kk).app (mem_one8 ho1) (by rw [List.length_take]; show _ + 1 ≤ _; omega)).app (B.drop8 _).2 (by rw [List.length_append, List.length_take, List.length_drop]; show _ + 1 + _ ≤ _; omega)
          have hl : (V0.take kk ++ [o1] ++ V0.drop (kk + 1)).dropLast.length ≤ 1302 := by rw [List.length_dropLast, List.length_append, List.length_append, List.length_take, List.length_drop]; show _ + 1 + _ - 1 ≤ _; omega
          refine rd_closed e21 (by omega) fun p22 H22 S22 n22 e22 => ?_
          walk_at "rd_Fl"
          have SS := ((S16.trans S17).trans (S18.trans S19)).trans ((S20.trans S21).trans S22)
          exact hnx _ _ ⟨_, _, _, _, _, _, _, _, _, p22, _, rfl, row15.mono SS, (Kl.same SS).tabs tab15, e22, hB.dropLast.closed (by omega)⟩
        · walk_at "rd_Fl"
          rw [show ((kk : Nat) : Int) + (if decide (((3 : Nat) : Int) = 2) = true then 1 else 0) = ((kk + 0 : Nat) : Int) by simp]
          refine rd_slFrom e15 fun p16 H16 S16 n16 e16 => ?_
          walk_at "rd_Fl"
          refine rd_slNto (S16 _ _ e15) fun p17 H17 S17 e17 => ?_
          walk_at "rd_Fl"
          intro p18 H18 S18 e18 _
          refine rd_addLk (S18 _ _ e17) e18 (by rw [natV_len, List.length_take, sizeLine_eq]; show _ + 1 ≤ _; omega) fun p19 H19 S19 n19 e19 => ?_
          have e19 : H19 p19 = some (.lst (natV (V0.take kk ++ [o1]))) := by rw [e19, natV_snoc]
          walk_at "rd_Fl"
          refine rd_addLk e19 (S19 _ _ (S18 _ _ (S17 _ _ e16))) (by rw [natV_len, natV_len, List.length_append, List.length_take, List.length_drop, sizeLine_eq]; show _ + 1 + _ ≤ _; omega) fun p20 H20 S20 n20 e20 => ?_
          rw [natV_app8] at e20
          walk_at "rd_Fl"
          refine rd_slDropLast e20 fun p21 H21 S21 e21 => ?_
          walk_at "rd_Fl"
          have hB : Byt (V0.take kk ++ [o1] ++ V0.drop (kk + 0)) := ((B.take kk).app (mem_one8 ho1) (by rw [List.length_take]; show _ + 1 ≤ _; omega)).app (B.drop8 _).2 (by rw [List.length_append, List.length_take, List.length_drop]; show _ + 1 + _ ≤ _; omega)
          have hl : (V0.take kk ++ [o1] ++ V0.drop (kk + 0)).dropLast.length ≤ 1302 := by rw [List.length_dropLast, List.length_append, List.length_append, List.length_take, List.length_drop]; show _ + 1 + _ - 1 ≤ _; omega
          refine rd_closed e21 (by omega) fun p22 H22 S22 n22 e22 => ?_
          walk_at "rd_Fl"
          have SS := ((S16.trans S17).trans (S18.trans S19)).trans ((S20.trans S21).trans S22)
          exact hnx _ _ ⟨_, _, _, _, _, _, _, _, _, p22, _, rfl, row15.mono SS, (Kl.same SS).tabs tab15, e22, hB.dropLast.closed (by omega)⟩
        · walk_at "rd_Fl"
          intro p16 H16 S16 e16 _
          refine rd_addLk (S16 _ _ e15) e16 (by rw [natV_len, sizeLine_eq]; show _ + 1 ≤ _; omega) fun p17 H17 S17 n17 e17 => ?_
          have e17 : H17 p17 = some (.lst (natV (V0 ++ [o1]))) := by rw [e17, natV_snoc]
          walk_at "rd_Fl"
          exact hnx _ _ ⟨_, _, _, _, _, _, _, _, _, p17, _, rfl, (row15.mono S16).mono S17, (Kl.same (S16.trans S17)).tabs tab15, e17, B.app (mem_one8 ho1) (by show _ + 1 ≤ _; omega)⟩
    · rintro σ H1 ⟨v2, v3, v4, v5, v6, v7, v8, v9, v10, v11, rfl, row1, tab1⟩
      walk_at "rd_Fl"
      exact k _
end
theorem bf_is_integer : BF "is_integer" "is_integer" s_is_integer ["value", "low", "high"] := fun _ _ _ _ _ _ us hl => match us, hl with | [_, _, _], _ => rfl
theorem bf_is_letter : BF "is_letter" "is_letter" s_is_letter ["value"] := fun _ _ _ _ _ _ us hl => match us, hl with | [_], _ => rfl
theorem bf_is_word : BF "is_word" "is_word" s_is_word ["value"] := fun _ _ _ _ _ _ us hl => match us, hl with | [_], _ => rfl
theorem bf_is_step : BF "is_step" "is_step" s_is_step ["value", "size"] := fun _ _ _ _ _ _ us hl => match us, hl with | [_, _], _ => rfl
theorem bf_Part_init : BF "__init__" "Part.__init__" s_Part_init ["self", "start", "length", "is_typed", "first", "last"] := fun _ _ _ _ _ _ us hl => match us, hl with | [_, _, _, _, _, _], _ => rfl
theorem bf_Text_init : BFS "__init__" "Text.__init__" s_Text_init ["self"] "steps" := fun _ _ _ _ _ _ us rest hl => match us, rest, hl with | [_], [], _ => rfl | [_], _ :: _, _ => rfl
theorem bf_Text_steps : BF "steps" "Text.steps" s_Text_steps ["self"] := fun _ _ _ _ _ _ us hl => match us, hl with | [_], _ => rfl
theorem bf_Text_size : BF "size" "Text.size" s_Text_size ["self"] := fun _ _ _ _ _ _ us hl => match us, hl with | [_], _ => rfl
theorem bf_DecodeError_init : BF "__init__" "DecodeError.__init__" s_DecodeError_init ["self", "offset"] := fun _ _ _ _ _ _ us hl => match us, hl with | [_, _], _ => rfl
theorem bf_pack_bytes : BF "pack_bytes" "pack_bytes" s_pack_bytes ["values"] := fun _ _ _ _ _ _ us hl => match us, hl with | [_], _ => rfl
theorem bf_unpack_bytes : BF "unpack_bytes" "unpack_bytes" s_unpack_bytes ["data"] := fun _ _ _ _ _ _ us hl => match us, hl with | [_], _ => rfl
theorem bf_checksum_of : BF "checksum_of" "checksum_of" s_checksum_of ["values"] := fun _ _ _ _ _ _ us hl => match us, hl with | [_], _ => rfl
theorem bf_number_values : BF "number_values" "number_values" s_number_values ["number"] := fun _ _ _ _ _ _ us hl => match us, hl with | [_], _ => rfl
theorem bf_encode_text : BF "encode_text" "encode_text" s_encode_text ["text"] := fun _ _ _ _ _ _ us hl => match us, hl with | [_], _ => rfl
theorem bf_Decoder_init : BF "__init__" "Decoder.__init__" s_Decoder_init ["self", "data"] := fun _ _ _ _ _ _ us hl => match us, hl with | [_, _], _ => rfl
theorem bf_Decoder_take : BF "take" "Decoder.take" s_Decoder_take ["self", "low", "high"] := fun _ _ _ _ _ _ us hl => match us, hl with | [_, _, _], _ => rfl
theorem bf_Decoder_take_number : BF "take_number" "Decoder.take_number" s_Decoder_take_number ["self", "low", "high"] := fun _ _ _ _ _ _ us hl => match us, hl with | [_, _, _], _ => rfl
theorem bf_Decoder_take_step : BF "take_step" "Decoder.take_step" s_Decoder_take_step ["self"] := fun _ _ _ _ _ _ us hl => match us, hl with | [_], _ => rfl
theorem bf_Decoder_finish : BF "finish" "Decoder.finish" s_Decoder_finish ["self"] := fun _ _ _ _ _ _ us hl => match us, hl with | [_], _ => rfl
theorem bf_decode_text : BF "decode_text" "decode_text" s_decode_text ["data"] := fun _ _ _ _ _ _ us hl => match us, hl with | [_], _ => rfl
theorem bf_x_law_dice : BF "_law_dice" "_law_dice" s_x_law_dice ["_law_script"] := fun _ _ _ _ _ _ us hl => match us, hl with | [_], _ => rfl
theorem bf_x_law_next : BF "_law_next" "_law_next" s_x_law_next ["_law_dice_here", "_law_many"] := fun _ _ _ _ _ _ us hl => match us, hl with | [_, _], _ => rfl
theorem bf_x_law_pick : BF "_law_pick" "_law_pick" s_x_law_pick ["_law_d", "_law_some_here"] := fun _ _ _ _ _ _ us hl => match us, hl with | [_, _], _ => rfl
theorem bf_x_law_told : BF "_law_told" "_law_told" s_x_law_told ["_law_work"] := fun _ _ _ _ _ _ us hl => match us, hl with | [_], _ => rfl
theorem bf_x_law_word : BF "_law_word" "_law_word" s_x_law_word ["_law_d"] := fun _ _ _ _ _ _ us hl => match us, hl with | [_], _ => rfl
theorem bf_x_law_drawn : BF "_law_drawn" "_law_drawn" s_x_law_drawn ["_law_d", "_law_total", "_law_most"] := fun _ _ _ _ _ _ us hl => match us, hl with | [_, _, _], _ => rfl
theorem bf_x_law_some : BF "_law_some" "_law_some" s_x_law_some ["_law_d", "_law_count", "_law_most"] := fun _ _ _ _ _ _ us hl => match us, hl with | [_, _, _], _ => rfl
theorem bf_x_law_groups : BF "_law_groups" "_law_groups" s_x_law_groups ["_law_number_here"] := fun _ _ _ _ _ _ us hl => match us, hl with | [_], _ => rfl
theorem bf_x_law_closed : BF "_law_closed" "_law_closed" s_x_law_closed ["_law_values_here"] := fun _ _ _ _ _ _ us hl => match us, hl with | [_], _ => rfl
theorem bf_x_law_values : BF "_law_values" "_law_values" s_x_law_values ["_law_steps"] := fun _ _ _ _ _ _ us hl => match us, hl with | [_], _ => rfl
theorem bf_x_law_take : BF "_law_take" "_law_take" s_x_law_take ["_law_values_here", "_law_at", "_law_low", "_law_high"] := fun _ _ _ _ _ _ us hl => match us, hl with | [_, _, _, _], _ => rfl
theorem bf_x_law_number : BF "_law_number" "_law_number" s_x_law_number ["_law_values_here", "_law_at", "_law_low", "_law_high"] := fun _ _ _ _ _ _ us hl => match us, hl with | [_, _, _, _], _ => rfl
theorem bf_x_law_one : BF "_law_one" "_law_one" s_x_law_one ["_law_values_here", "_law_at", "_law_total"] := fun _ _ _ _ _ _ us hl => match us, hl with | [_, _, _], _ => rfl
theorem bf_x_law_decoded : BF "_law_decoded" "_law_decoded" s_x_law_decoded ["_law_values_here"] := fun _ _ _ _ _ _ us hl => match us, hl with | [_], _ => rfl
theorem bf_Editor_init : BFS "__init__" "Editor.__init__" s_Editor_init ["self"] "steps" := fun _ _ _ _ _ _ us rest hl => match us, rest, hl with | [_], [], _ => rfl | [_], _ :: _, _ => rfl
theorem bf_Editor_present_text : BF "present_text" "Editor.present_text" s_Editor_present_text ["self"] := fun _ _ _ _ _ _ us hl => match us, hl with | [_], _ => rfl
theorem bf_Editor_apply : BFS "apply" "Editor.apply" s_Editor_apply ["self"] "operations" := fun _ _ _ _ _ _ us rest hl => match us, rest, hl with | [_], [], _ => rfl | [_], _ :: _, _ => rfl
theorem bf_Editor_replay : BF "replay" "Editor.replay" s_Editor_replay ["cls", "steps", "operations"] := fun _ _ _ _ _ _ us hl => match us, hl with | [_, _, _], _ => rfl
theorem bf_x_law_made : BF "_law_made" "_law_made" s_x_law_made ["_law_steps"] := fun _ _ _ _ _ _ us hl => match us, hl with | [_], _ => rfl
theorem bf_law : BF "law" "law" s_law ["_law_script"] := fun _ _ _ _ _ _ us hl => match us, hl with | [_], _ => rfl
theorem fin {q : Program} {l : PySem.W.OpenLaw} {w : World} {n : Nat} {K : PySem.W.Frag} {h : Heap} {mg : Str → Option Value} {fa CText CPart CEditor CDecoder CTextError CInvalidStep CInvalidOperation CDecodeError CNotationError CTooLong CInvalidPlace CInvalidLetter CContradiction CInvalidCount c_law p_law : Addr} (X : K.In h) (G : h.Ns mainGlobals mg) (A : AllTab q K mg h) (hmg : mg "law" = some (.ref fa))
    (gText : PySem.W.nsIn K mainGlobals "Text" = some (some (.ref CText)))
    (gPart : PySem.W.nsIn K mainGlobals "Part" = some (some (.ref CPart)))
    (gEditor : PySem.W.nsIn K mainGlobals "Editor" = some (some (.ref CEditor)))
    (gDecoder : PySem.W.nsIn K mainGlobals "Decoder" = some (some (.ref CDecoder)))
    (gTextError : PySem.W.nsIn K mainGlobals "TextError" = some (some (.ref CTextError)))
    (gInvalidStep : PySem.W.nsIn K mainGlobals "InvalidStep" = some (some (.ref CInvalidStep)))
    (gInvalidOperation : PySem.W.nsIn K mainGlobals "InvalidOperation" = some (some (.ref CInvalidOperation)))
    (gDecodeError : PySem.W.nsIn K mainGlobals "DecodeError" = some (some (.ref CDecodeError)))
    (gNotationError : PySem.W.nsIn K mainGlobals "NotationError" = some (some (.ref CNotationError)))
    (gTooLong : PySem.W.nsIn K mainGlobals "TooLong" = some (some (.ref CTooLong)))
    (gInvalidPlace : PySem.W.nsIn K mainGlobals "InvalidPlace" = some (some (.ref CInvalidPlace)))
    (gInvalidLetter : PySem.W.nsIn K mainGlobals "InvalidLetter" = some (some (.ref CInvalidLetter)))
    (gContradiction : PySem.W.nsIn K mainGlobals "Contradiction" = some (some (.ref CContradiction)))
    (gInvalidCount : PySem.W.nsIn K mainGlobals "InvalidCount" = some (some (.ref CInvalidCount)))
    (T : (mg "Text" = some (.ref CText) ∧ mg "Part" = some (.ref CPart) ∧ mg "Editor" = some (.ref CEditor) ∧ mg "Decoder" = some (.ref CDecoder) ∧ mg "TextError" = some (.ref CTextError) ∧ mg "InvalidStep" = some (.ref CInvalidStep) ∧ mg "InvalidOperation" = some (.ref CInvalidOperation) ∧ mg "DecodeError" = some (.ref CDecodeError) ∧ mg "NotationError" = some (.ref CNotationError) ∧ mg "TooLong" = some (.ref CTooLong) ∧ mg "InvalidPlace" = some (.ref CInvalidPlace) ∧ mg "InvalidLetter" = some (.ref CInvalidLetter) ∧ mg "Contradiction" = some (.ref CContradiction) ∧ mg "InvalidCount" = some (.ref CInvalidCount)) → Txt K mg CText CPart CEditor CDecoder CTextError CInvalidStep CInvalidOperation CDecodeError CNotationError CTooLong CInvalidPlace CInvalidLetter CContradiction CInvalidCount c_law p_law)
    (hx_law : ((recsOf q).any fun e => e.name == ("law" : Str)) = true)
    : LamX.LawAtS l w K CX0 73 n "_law_script" mg fa h := by
  have T := T ⟨PySem.W.mg_of X G gText, PySem.W.mg_of X G gPart, PySem.W.mg_of X G gEditor, PySem.W.mg_of X G gDecoder, PySem.W.mg_of X G gTextError, PySem.W.mg_of X G gInvalidStep, PySem.W.mg_of X G gInvalidOperation, PySem.W.mg_of X G gDecodeError, PySem.W.mg_of X G gNotationError, PySem.W.mg_of X G gTooLong, PySem.W.mg_of X G gInvalidPlace, PySem.W.mg_of X G gInvalidLetter, PySem.W.mg_of X G gContradiction, PySem.W.mg_of X G gInvalidCount⟩
  obtain ⟨f, fd, F, a, b⟩ := T.d_law
  have e := hmg.symm.trans a
  cases e
  refine ⟨fd, [(c_law, p_law)], sp_lawL K (TL p_law), ?_, ?_, ?_, fun s u => ?_, fun H a ns _ _ hT hS => ⟨a, ns, rfl, hS, ?_, fun _ => rfl⟩, fun base KB NB hT => ok_law T ?_ F⟩
  · intro p hp
    simp only [List.mem_cons, List.not_mem_nil, or_false] at hp
    rcases hp with rfl
    · exact T.t_law.empty A T.d_law hx_law
  · intro p hp
    simp only [List.mem_cons, List.not_mem_nil, or_false] at hp
    rcases hp with rfl
    · exact T.t_law.no
  · intro p hp
    simp only [List.mem_cons, List.not_mem_nil, or_false] at hp
    rcases hp with rfl
    · exact PySem.W.codeHd_of_K X T.t_law.hd
  · obtain ⟨oc, od, kV, doc, pm, an, ct, osl, rfl, lk, hcd⟩ := F.ex
    exact .of_eq (bf_law kV doc pm an (.ref c_law) ct [u] rfl)
  · intro p hp
    simp only [List.mem_cons, List.not_mem_nil, or_false] at hp
    rcases hp with rfl
    · exact LamX.TabS.nil (hT (c_law, p_law) (.head _))
  · refine ⟨hT (c_law, p_law) (.head _), ?_⟩
    · intro p hp e
      simp only [List.mem_cons, List.not_mem_nil, or_false] at hp
      rcases hp with rfl
      · rfl
end L2.Px
open PySem PySem.W PyProof.Rows
local macro_rules | `(tactic| o_head (kmHook $K:term $as:term $e:term $ts:term)) => `(tactic|
    refine L2.Px.head_km (q := L2.Px.qv) (ek := L2.Px.hd_as) (d := HeadRun.topDef PySem.Challenge.pw_pastekeys_k49_bytes_of_texts 66) (kwd := []) "special-get-raises"
      (by kernel_rfl) (fun s => by kernel_rfl) L2.Px.hd_r0 L2.Px.hd_r1 (by kernel_rfl) (by kernel_rfl) (by kernel_rfl) (by rfl)
      (by first | assumption | decide +kernel) (by decide +kernel) ⟨rfl, rfl, rfl, rfl, rfl, by decide +kernel⟩ (by w_witness2) ?_)
set_option maxRecDepth 100000 in
set_option maxHeartbeats 0 in
theorem PySem.Challenge.cw_pastekeys_k49_bytes_of_texts_holds : PySem.Challenge.rw_pastekeys_k49_bytes_of_texts.Holds := by
  w_on; o_law; k_head
  k_fill
  refine L2.Px.walk_ofT (l := PySem.Challenge.rw_pastekeys_k49_bytes_of_texts) (k := 73) (x := "_law_script") rfl (by decide) rfl ⟨rfl, by decide, by decide⟩ (fun w h Y => PySem.W.km_in_of Y) ?F
  case F =>
    intro w mg fa h KX G XL hmg AT
    refine' L2.Px.fin KX G AT hmg ?gText ?gPart ?gEditor ?gDecoder ?gTextError ?gInvalidStep ?gInvalidOperation ?gDecodeError ?gNotationError ?gTooLong ?gInvalidPlace ?gInvalidLetter ?gContradiction ?gInvalidCount ?t ?hx_law 
    (case gText => k_is)
    (case gPart => k_is)
    (case gEditor => k_is)
    (case gDecoder => k_is)
    (case gTextError => k_is)
    (case gInvalidStep => k_is)
    (case gInvalidOperation => k_is)
    (case gDecodeError => k_is)
    (case gNotationError => k_is)
    (case gTooLong => k_is)
    (case gInvalidPlace => k_is)
    (case gInvalidLetter => k_is)
    (case gContradiction => k_is)
    (case gInvalidCount => k_is)
    case t =>
      intro gg
      obtain ⟨qText, qPart, qEditor, qDecoder, qTextError, qInvalidStep, qInvalidOperation, qDecodeError, qNotationError, qTooLong, qInvalidPlace, qInvalidLetter, qContradiction, qInvalidCount⟩ := gg
      refine' L2.Px.Txt.mk ?d_is_integer ?d_is_letter ?d_is_word ?d_is_step ?d_Part_init ?d_Text_init ?d_Text_steps ?d_Text_size ?d_DecodeError_init ?d_pack_bytes ?d_unpack_bytes ?d_checksum_of ?d_number_values ?d_encode_text ?d_Decoder_init ?d_Decoder_take ?d_Decoder_take_number ?d_Decoder_take_step ?d_Decoder_finish ?d_decode_text ?d_x_law_dice ?d_x_law_next ?d_x_law_pick ?d_x_law_told ?d_x_law_word ?d_x_law_drawn ?d_x_law_some ?d_x_law_groups ?d_x_law_closed ?d_x_law_values ?d_x_law_take ?d_x_law_number ?d_x_law_one ?d_x_law_decoded ?d_Editor_init ?d_Editor_present_text ?d_Editor_apply ?d_Editor_replay ?d_x_law_made ?d_law ?cText ?g_Text ?cPart ?g_Part ?cEditor ?g_Editor ?cDecoder ?g_Decoder ?ne_Text_Part ?ne_Text_Editor ?ne_Text_Decoder ?ne_Part_Editor ?ne_Part_Decoder ?ne_Editor_Decoder ?xb_TextError ?x_InvalidStep ?x_InvalidOperation ?x_DecodeError ?x_NotationError ?x_TooLong ?x_InvalidPlace ?x_InvalidLetter ?x_Contradiction ?x_InvalidCount ?z_DecodeError ?zf_DecodeError_offset ?z_InvalidCount ?t_law ?na_Part_start ?na_Part_length ?na_Part_is_typed ?na_Part_first ?na_Part_last ?na_Text_made ?na_Text_typed ?na_Text_parts ?na_Text_total ?na_Decoder_data ?na_Decoder_offset ?na_Decoder_total ?na_Editor_present ?na_Editor_done ?na_Editor_undone ?na_Editor_is_open ?na_Editor_kept_present ?na_Editor_kept_done ?na_Editor_kept_undone ?k_LETTERS ?k_MAX_WORD ?k_MAX_STEPS ?k_MAX_TIMES ?k_MAX_SIZE_texts ?k_FIRST_BYTE ?k_BYTE ?k_GROUP ?k_CHECKSUM_MODULUS ?n_isinstance ?n_int ?n_bool ?n_str ?n_len ?n_all ?n_tuple ?n_list ?n_range ?n_enumerate ?n_min ?n_max ?n_bytes ?n_ValueError
      (case d_is_integer => open L2 L2.Px StX ClX in (refine' defG_mk KX G ?a ?l ?k ?b; (case a => k_is); (case l => (refine' atF ?l1 ?l2; (case l1 => k_is); (case l2 => k_is))); (case k => k_is); (case b => exact bf_is_integer)))
      (case d_is_letter => open L2 L2.Px StX ClX in (refine' defG_mk KX G ?a ?l ?k ?b; (case a => k_is); (case l => (refine' atF ?l1 ?l2; (case l1 => k_is); (case l2 => k_is))); (case k => k_is); (case b => exact bf_is_letter)))
      (case d_is_word => open L2 L2.Px StX ClX in (refine' defG_mk KX G ?a ?l ?k ?b; (case a => k_is); (case l => (refine' atF ?l1 ?l2; (case l1 => k_is); (case l2 => k_is))); (case k => k_is); (case b => exact bf_is_word)))
      (case d_is_step => open L2 L2.Px StX ClX in (refine' defG_mk KX G ?a ?l ?k ?b; (case a => k_is); (case l => (refine' atF ?l1 ?l2; (case l1 => k_is); (case l2 => k_is))); (case k => k_is); (case b => exact bf_is_step)))
      (case d_Part_init => open L2 L2.Px StX ClX in (refine' defK_mk ?mk ?a ?fn ?kc ?l ?k ?b; (case mk => k_is); (case a => k_is); (case fn => k_is); (case kc => k_is); (case l => (refine' atF ?l1 ?l2; (case l1 => k_is); (case l2 => k_is))); (case k => k_is); (case b => exact bf_Part_init)))
      (case d_Text_init => open L2 L2.Px StX ClX in (refine' defKS_mk ?mk ?a ?fn ?kc ?l ?k ?b; (case mk => k_is); (case a => k_is); (case fn => k_is); (case kc => k_is); (case l => (refine' atF ?l1 ?l2; (case l1 => k_is); (case l2 => k_is))); (case k => k_is); (case b => exact bf_Text_init)))
      (case d_Text_steps => open L2 L2.Px StX ClX in (refine' defP_mk ?a ?g ?t ?r ?l ?k ?b; (case a => k_is); (case g => k_is); (case t => k_is); (case r => k_is); (case l => (refine' atF ?l1 ?l2; (case l1 => k_is); (case l2 => k_is))); (case k => k_is); (case b => exact bf_Text_steps)))
      (case d_Text_size => open L2 L2.Px StX ClX in (refine' defP_mk ?a ?g ?t ?r ?l ?k ?b; (case a => k_is); (case g => k_is); (case t => k_is); (case r => k_is); (case l => (refine' atF ?l1 ?l2; (case l1 => k_is); (case l2 => k_is))); (case k => k_is); (case b => exact bf_Text_size)))
      (case d_DecodeError_init => open L2 L2.Px StX ClX in (refine' defI_mk ?a ?t ?l ?k ?b; (case a => k_is); (case t => k_is); (case l => (refine' atF ?l1 ?l2; (case l1 => k_is); (case l2 => k_is))); (case k => k_is); (case b => exact bf_DecodeError_init)))
      (case d_pack_bytes => open L2 L2.Px StX ClX in (refine' defG_mk KX G ?a ?l ?k ?b; (case a => k_is); (case l => (refine' atF ?l1 ?l2; (case l1 => k_is); (case l2 => k_is))); (case k => k_is); (case b => exact bf_pack_bytes)))
      (case d_unpack_bytes => open L2 L2.Px StX ClX in (refine' defG_mk KX G ?a ?l ?k ?b; (case a => k_is); (case l => (refine' atF ?l1 ?l2; (case l1 => k_is); (case l2 => k_is))); (case k => k_is); (case b => exact bf_unpack_bytes)))
      (case d_checksum_of => open L2 L2.Px StX ClX in (refine' defG_mk KX G ?a ?l ?k ?b; (case a => k_is); (case l => (refine' atF ?l1 ?l2; (case l1 => k_is); (case l2 => k_is))); (case k => k_is); (case b => exact bf_checksum_of)))
      (case d_number_values => open L2 L2.Px StX ClX in (refine' defG_mk KX G ?a ?l ?k ?b; (case a => k_is); (case l => (refine' atF ?l1 ?l2; (case l1 => k_is); (case l2 => k_is))); (case k => k_is); (case b => exact bf_number_values)))
      (case d_encode_text => open L2 L2.Px StX ClX in (refine' defG_mk KX G ?a ?l ?k ?b; (case a => k_is); (case l => (refine' atF ?l1 ?l2; (case l1 => k_is); (case l2 => k_is))); (case k => k_is); (case b => exact bf_encode_text)))
      (case d_Decoder_init => open L2 L2.Px StX ClX in (refine' defK_mk ?mk ?a ?fn ?kc ?l ?k ?b; (case mk => k_is); (case a => k_is); (case fn => k_is); (case kc => k_is); (case l => (refine' atF ?l1 ?l2; (case l1 => k_is); (case l2 => k_is))); (case k => k_is); (case b => exact bf_Decoder_init)))
      (case d_Decoder_take => open L2 L2.Px StX ClX in (refine' defM_mk ?a ?fn ?l ?k ?b; (case a => k_is); (case fn => k_is); (case l => (refine' atF ?l1 ?l2; (case l1 => k_is); (case l2 => k_is))); (case k => k_is); (case b => exact bf_Decoder_take)))
      (case d_Decoder_take_number => open L2 L2.Px StX ClX in (refine' defM_mk ?a ?fn ?l ?k ?b; (case a => k_is); (case fn => k_is); (case l => (refine' atF ?l1 ?l2; (case l1 => k_is); (case l2 => k_is))); (case k => k_is); (case b => exact bf_Decoder_take_number)))
      (case d_Decoder_take_step => open L2 L2.Px StX ClX in (refine' defM_mk ?a ?fn ?l ?k ?b; (case a => k_is); (case fn => k_is); (case l => (refine' atF ?l1 ?l2; (case l1 => k_is); (case l2 => k_is))); (case k => k_is); (case b => exact bf_Decoder_take_step)))
      (case d_Decoder_finish => open L2 L2.Px StX ClX in (refine' defM_mk ?a ?fn ?l ?k ?b; (case a => k_is); (case fn => k_is); (case l => (refine' atF ?l1 ?l2; (case l1 => k_is); (case l2 => k_is))); (case k => k_is); (case b => exact bf_Decoder_finish)))
      (case d_decode_text => open L2 L2.Px StX ClX in (refine' defG_mk KX G ?a ?l ?k ?b; (case a => k_is); (case l => (refine' atF ?l1 ?l2; (case l1 => k_is); (case l2 => k_is))); (case k => k_is); (case b => exact bf_decode_text)))
      (case d_x_law_dice => open L2 L2.Px StX ClX in (refine' defG_mk KX G ?a ?l ?k ?b; (case a => k_is); (case l => (refine' atF ?l1 ?l2; (case l1 => k_is); (case l2 => k_is))); (case k => k_is); (case b => exact bf_x_law_dice)))
      (case d_x_law_next => open L2 L2.Px StX ClX in (refine' defG_mk KX G ?a ?l ?k ?b; (case a => k_is); (case l => (refine' atF ?l1 ?l2; (case l1 => k_is); (case l2 => k_is))); (case k => k_is); (case b => exact bf_x_law_next)))
      (case d_x_law_pick => open L2 L2.Px StX ClX in (refine' defG_mk KX G ?a ?l ?k ?b; (case a => k_is); (case l => (refine' atF ?l1 ?l2; (case l1 => k_is); (case l2 => k_is))); (case k => k_is); (case b => exact bf_x_law_pick)))
      (case d_x_law_told => open L2 L2.Px StX ClX in (refine' defG_mk KX G ?a ?l ?k ?b; (case a => k_is); (case l => (refine' atF ?l1 ?l2; (case l1 => k_is); (case l2 => k_is))); (case k => k_is); (case b => exact bf_x_law_told)))
      (case d_x_law_word => open L2 L2.Px StX ClX in (refine' defG_mk KX G ?a ?l ?k ?b; (case a => k_is); (case l => (refine' atF ?l1 ?l2; (case l1 => k_is); (case l2 => k_is))); (case k => k_is); (case b => exact bf_x_law_word)))
      (case d_x_law_drawn => open L2 L2.Px StX ClX in (refine' defG_mk KX G ?a ?l ?k ?b; (case a => k_is); (case l => (refine' atF ?l1 ?l2; (case l1 => k_is); (case l2 => k_is))); (case k => k_is); (case b => exact bf_x_law_drawn)))
      (case d_x_law_some => open L2 L2.Px StX ClX in (refine' defG_mk KX G ?a ?l ?k ?b; (case a => k_is); (case l => (refine' atF ?l1 ?l2; (case l1 => k_is); (case l2 => k_is))); (case k => k_is); (case b => exact bf_x_law_some)))
      (case d_x_law_groups => open L2 L2.Px StX ClX in (refine' defG_mk KX G ?a ?l ?k ?b; (case a => k_is); (case l => (refine' atF ?l1 ?l2; (case l1 => k_is); (case l2 => k_is))); (case k => k_is); (case b => exact bf_x_law_groups)))
      (case d_x_law_closed => open L2 L2.Px StX ClX in (refine' defG_mk KX G ?a ?l ?k ?b; (case a => k_is); (case l => (refine' atF ?l1 ?l2; (case l1 => k_is); (case l2 => k_is))); (case k => k_is); (case b => exact bf_x_law_closed)))
      (case d_x_law_values => open L2 L2.Px StX ClX in (refine' defG_mk KX G ?a ?l ?k ?b; (case a => k_is); (case l => (refine' atF ?l1 ?l2; (case l1 => k_is); (case l2 => k_is))); (case k => k_is); (case b => exact bf_x_law_values)))
      (case d_x_law_take => open L2 L2.Px StX ClX in (refine' defG_mk KX G ?a ?l ?k ?b; (case a => k_is); (case l => (refine' atF ?l1 ?l2; (case l1 => k_is); (case l2 => k_is))); (case k => k_is); (case b => exact bf_x_law_take)))
      (case d_x_law_number => open L2 L2.Px StX ClX in (refine' defG_mk KX G ?a ?l ?k ?b; (case a => k_is); (case l => (refine' atF ?l1 ?l2; (case l1 => k_is); (case l2 => k_is))); (case k => k_is); (case b => exact bf_x_law_number)))
      (case d_x_law_one => open L2 L2.Px StX ClX in (refine' defG_mk KX G ?a ?l ?k ?b; (case a => k_is); (case l => (refine' atF ?l1 ?l2; (case l1 => k_is); (case l2 => k_is))); (case k => k_is); (case b => exact bf_x_law_one)))
      (case d_x_law_decoded => open L2 L2.Px StX ClX in (refine' defG_mk KX G ?a ?l ?k ?b; (case a => k_is); (case l => (refine' atF ?l1 ?l2; (case l1 => k_is); (case l2 => k_is))); (case k => k_is); (case b => exact bf_x_law_decoded)))
      (case d_Editor_init => open L2 L2.Px StX ClX in (refine' defKS_mk ?mk ?a ?fn ?kc ?l ?k ?b; (case mk => k_is); (case a => k_is); (case fn => k_is); (case kc => k_is); (case l => (refine' atF ?l1 ?l2; (case l1 => k_is); (case l2 => k_is))); (case k => k_is); (case b => exact bf_Editor_init)))
      (case d_Editor_present_text => open L2 L2.Px StX ClX in (refine' defP_mk ?a ?g ?t ?r ?l ?k ?b; (case a => k_is); (case g => k_is); (case t => k_is); (case r => k_is); (case l => (refine' atF ?l1 ?l2; (case l1 => k_is); (case l2 => k_is))); (case k => k_is); (case b => exact bf_Editor_present_text)))
      (case d_Editor_apply => open L2 L2.Px StX ClX in (refine' defBS_mk ?r ?l ?k ?b; (case r => (refine' L2.BMeth.mk ?m1 ?m2 ?m3 ?m4 ?m5; (case m1 => (refine' L2.Meth.mk ?n1 ?n2 ?n3; (case n1 => k_is); (case n2 => k_is); (case n3 => k_is))); (case m2 => k_is); (case m3 => k_is); (case m4 => decide +kernel); (case m5 => k_is))); (case l => (refine' atF ?l1 ?l2; (case l1 => k_is); (case l2 => k_is))); (case k => k_is); (case b => exact bf_Editor_apply)))
      (case d_Editor_replay => open L2 L2.Px StX ClX in (refine' defC_mk (mc := .type "type") ?rd ?ga ?a ?r ?fi ?l ?k ?b; (case rd => k_is); (case ga => k_is); (case a => k_is); (case r => k_is); (case fi => k_is); (case l => (refine' atF ?l1 ?l2; (case l1 => k_is); (case l2 => k_is))); (case k => k_is); (case b => exact bf_Editor_replay)))
      (case d_x_law_made => open L2 L2.Px StX ClX in (refine' defG_mk KX G ?a ?l ?k ?b; (case a => k_is); (case l => (refine' atF ?l1 ?l2; (case l1 => k_is); (case l2 => k_is))); (case k => k_is); (case b => exact bf_x_law_made)))
      (case d_law => open L2 L2.Px StX ClX in (refine' defGC_mk KX G ?a ?l ?k ?b; (case a => k_is); (case l => (refine' atC ?l1 ?l2; (case l1 => k_is); (case l2 => k_is))); (case k => k_is); (case b => exact bf_law)))
      (case cText => (refine' L2.Cls.mk ?a1 ?a2 ?a3 ?a4; (case a1 => k_is); (case a2 => k_is); (case a3 => k_is); (case a4 => k_is)))
      (case g_Text => exact qText)
      (case cPart => (refine' L2.Cls.mk ?a1 ?a2 ?a3 ?a4; (case a1 => k_is); (case a2 => k_is); (case a3 => k_is); (case a4 => k_is)))
      (case g_Part => exact qPart)
      (case cEditor => (refine' L2.Cls.mk ?a1 ?a2 ?a3 ?a4; (case a1 => k_is); (case a2 => k_is); (case a3 => k_is); (case a4 => k_is)))
      (case g_Editor => exact qEditor)
      (case cDecoder => (refine' L2.Cls.mk ?a1 ?a2 ?a3 ?a4; (case a1 => k_is); (case a2 => k_is); (case a3 => k_is); (case a4 => k_is)))
      (case g_Decoder => exact qDecoder)
      (case ne_Text_Part => decide)
      (case ne_Text_Editor => decide)
      (case ne_Text_Decoder => decide)
      (case ne_Part_Editor => decide)
      (case ne_Part_Decoder => decide)
      (case ne_Editor_Decoder => decide)
      (case xb_TextError => (refine' L2.Px.XBs.mk ?a1 ?a2 ?a3 ?a4; (case a1 => exact qTextError); (case a2 => k_is); (case a3 => k_is); (case a4 => k_is)))
      (case x_InvalidStep => (refine' L2.Px.XNm.mk ?a1; (case a1 => exact qInvalidStep)))
      (case x_InvalidOperation => (refine' L2.Px.XNm.mk ?a1; (case a1 => exact qInvalidOperation)))
      (case x_DecodeError => (refine' L2.Px.XOw.mk ?a1 ?a2 ?a3 ?a4; (case a1 => exact qDecodeError); (case a2 => (refine' L2.Px.oex_mk ?l ?r ?sa ?e ?t ?kk; (case l => k_is); (case r => rfl); (case sa => k_is); (case e => k_is); (case t => k_is); (case kk => k_is))); (case a3 => (refine' L2.Px.xf_mk ?f1 ?f2 ?f3 ?f4; (case f1 => k_is); (case f2 => k_is); (case f3 => k_is); (case f4 => k_is))); (case a4 => (refine' L2.Px.no1 ?n1; (case n1 => k_is)))))
      (case x_NotationError => (refine' L2.Px.XNm.mk ?a1; (case a1 => exact qNotationError)))
      (case x_TooLong => (refine' L2.Px.XNm.mk ?a1; (case a1 => exact qTooLong)))
      (case x_InvalidPlace => (refine' L2.Px.XNm.mk ?a1; (case a1 => exact qInvalidPlace)))
      (case x_InvalidLetter => (refine' L2.Px.XNm.mk ?a1; (case a1 => exact qInvalidLetter)))
      (case x_Contradiction => (refine' L2.Px.XNm.mk ?a1; (case a1 => exact qContradiction)))
      (case x_InvalidCount => (refine' L2.Px.XPl.mk ?a1 ?a2 ?a3 ?a4 ?a5; (case a1 => exact qInvalidCount); (case a2 => kernel_rfl); (case a3 => k_is); (case a4 => k_is); (case a5 => k_is)))
      (case z_DecodeError => (refine' L2.Px.RzC.mk ?a1 ?a2 ?a3 ?a4; (case a1 => (refine' L2.Px.excC_mk ?e0 ?e1 ?e2 ?e3 ?e4 ?e5 ?e6 ?e7; (case e0 => k_is); (case e1 => k_is); (case e2 => k_is); (case e3 => k_is); (case e4 => k_is); (case e5 => k_is); (case e6 => k_is); (case e7 => k_is))); (case a2 => (refine' L2.Px.exm_mk ?e0 ?e1 ?e2 ?e3; (case e0 => k_is); (case e1 => k_is); (case e2 => k_is); (case e3 => k_is))); (case a3 => (refine' L2.Px.kit_ve ?e0; (case e0 => k_is))); (case a4 => (refine' L2.Px.kit_all9 ?k0 ?k1 ?k2 ?k3 ?k4 ?k5 ?k6 ?k7 ?k8; (case k0 => (refine' L2.Px.kit_cls2 ?a0 ?b1 ?b2 ?b3; (case a0 => decide); (case b1 => k_is); (case b2 => k_is); (case b3 => k_is))); (case k1 => (refine' L2.Px.kit_cls2 ?a0 ?b1 ?b2 ?b3; (case a0 => decide); (case b1 => k_is); (case b2 => k_is); (case b3 => k_is))); (case k2 => exact L2.Px.kit_self); (case k3 => (refine' L2.Px.kit_cls2 ?a0 ?b1 ?b2 ?b3; (case a0 => decide); (case b1 => k_is); (case b2 => k_is); (case b3 => k_is))); (case k4 => (refine' L2.Px.kit_cls2 ?a0 ?b1 ?b2 ?b3; (case a0 => decide); (case b1 => k_is); (case b2 => k_is); (case b3 => k_is))); (case k5 => (refine' L2.Px.kit_cls2 ?a0 ?b1 ?b2 ?b3; (case a0 => decide); (case b1 => k_is); (case b2 => k_is); (case b3 => k_is))); (case k6 => (refine' L2.Px.kit_cls2 ?a0 ?b1 ?b2 ?b3; (case a0 => decide); (case b1 => k_is); (case b2 => k_is); (case b3 => k_is))); (case k7 => (refine' L2.Px.kit_cls2 ?a0 ?b1 ?b2 ?b3; (case a0 => decide); (case b1 => k_is); (case b2 => k_is); (case b3 => k_is))); (case k8 => (refine' L2.Px.kit_cls2 ?a0 ?b1 ?b2 ?b3; (case a0 => decide); (case b1 => k_is); (case b2 => k_is); (case b3 => k_is)))))))
      (case zf_DecodeError_offset => (refine' L2.Px.RzF.mk ?a1 ?a2; (case a1 => (refine' L2.Px.xf_mk ?f1 ?f2 ?f3 ?f4; (case f1 => k_is); (case f2 => k_is); (case f3 => k_is); (case f4 => k_is))); (case a2 => k_is)))
      (case z_InvalidCount => (refine' L2.Px.RzC.mk ?a1 ?a2 ?a3 ?a4; (case a1 => (refine' L2.Px.excC_mk ?e0 ?e1 ?e2 ?e3 ?e4 ?e5 ?e6 ?e7; (case e0 => k_is); (case e1 => k_is); (case e2 => k_is); (case e3 => k_is); (case e4 => k_is); (case e5 => k_is); (case e6 => k_is); (case e7 => k_is))); (case a2 => (refine' L2.Px.exm_mk ?e0 ?e1 ?e2 ?e3; (case e0 => k_is); (case e1 => k_is); (case e2 => k_is); (case e3 => k_is))); (case a3 => (refine' L2.Px.kit_ve ?e0; (case e0 => k_is))); (case a4 => (refine' L2.Px.kit_all9 ?k0 ?k1 ?k2 ?k3 ?k4 ?k5 ?k6 ?k7 ?k8; (case k0 => (refine' L2.Px.kit_cls2 ?a0 ?b1 ?b2 ?b3; (case a0 => decide); (case b1 => k_is); (case b2 => k_is); (case b3 => k_is))); (case k1 => (refine' L2.Px.kit_cls2 ?a0 ?b1 ?b2 ?b3; (case a0 => decide); (case b1 => k_is); (case b2 => k_is); (case b3 => k_is))); (case k2 => (refine' L2.Px.kit_cls2 ?a0 ?b1 ?b2 ?b3; (case a0 => decide); (case b1 => k_is); (case b2 => k_is); (case b3 => k_is))); (case k3 => (refine' L2.Px.kit_cls2 ?a0 ?b1 ?b2 ?b3; (case a0 => decide); (case b1 => k_is); (case b2 => k_is); (case b3 => k_is))); (case k4 => (refine' L2.Px.kit_cls2 ?a0 ?b1 ?b2 ?b3; (case a0 => decide); (case b1 => k_is); (case b2 => k_is); (case b3 => k_is))); (case k5 => (refine' L2.Px.kit_cls2 ?a0 ?b1 ?b2 ?b3; (case a0 => decide); (case b1 => k_is); (case b2 => k_is); (case b3 => k_is))); (case k6 => (refine' L2.Px.kit_cls2 ?a0 ?b1 ?b2 ?b3; (case a0 => decide); (case b1 => k_is); (case b2 => k_is); (case b3 => k_is))); (case k7 => (refine' L2.Px.kit_cls2 ?a0 ?b1 ?b2 ?b3; (case a0 => decide); (case b1 => k_is); (case b2 => k_is); (case b3 => k_is))); (case k8 => exact L2.Px.kit_self)))))
      (case t_law => (refine' L2.Px.tabC_mk ?l ?v ?hd ?no; (case l => k_is); (case v => rfl); (case hd => kernel_rfl); (case no => kernel_rfl)))
      (case na_Part_start => (unfold L2.NoAttr; k_is))
      (case na_Part_length => (unfold L2.NoAttr; k_is))
      (case na_Part_is_typed => (unfold L2.NoAttr; k_is))
      (case na_Part_first => (unfold L2.NoAttr; k_is))
      (case na_Part_last => (unfold L2.NoAttr; k_is))
      (case na_Text_made => (unfold L2.NoAttr; k_is))
      (case na_Text_typed => (unfold L2.NoAttr; k_is))
      (case na_Text_parts => (unfold L2.NoAttr; k_is))
      (case na_Text_total => (unfold L2.NoAttr; k_is))
      (case na_Decoder_data => (unfold L2.NoAttr; k_is))
      (case na_Decoder_offset => (unfold L2.NoAttr; k_is))
      (case na_Decoder_total => (unfold L2.NoAttr; k_is))
      (case na_Editor_present => (unfold L2.NoAttr; k_is))
      (case na_Editor_done => (unfold L2.NoAttr; k_is))
      (case na_Editor_undone => (unfold L2.NoAttr; k_is))
      (case na_Editor_is_open => (unfold L2.NoAttr; k_is))
      (case na_Editor_kept_present => (unfold L2.NoAttr; k_is))
      (case na_Editor_kept_done => (unfold L2.NoAttr; k_is))
      (case na_Editor_kept_undone => (unfold L2.NoAttr; k_is))
      (case k_LETTERS => (refine' L2.Px.const_str KX G ?a; (case a => k_is)))
      (case k_MAX_WORD => first | exact L2.Px.loose_int XL (.head _) | exact L2.Px.loose_int XL (.tail _ (.head _)) | exact L2.Px.loose_int XL (.tail _ (.tail _ (.head _))) | exact L2.Px.loose_int XL (.tail _ (.tail _ (.tail _ (.head _)))) | (refine' L2.Px.const_int KX G ?a; (case a => k_is)))
      (case k_MAX_STEPS => first | exact L2.Px.loose_int XL (.head _) | exact L2.Px.loose_int XL (.tail _ (.head _)) | exact L2.Px.loose_int XL (.tail _ (.tail _ (.head _))) | exact L2.Px.loose_int XL (.tail _ (.tail _ (.tail _ (.head _)))) | (refine' L2.Px.const_int KX G ?a; (case a => k_is)))
      (case k_MAX_TIMES => first | exact L2.Px.loose_int XL (.head _) | exact L2.Px.loose_int XL (.tail _ (.head _)) | exact L2.Px.loose_int XL (.tail _ (.tail _ (.head _))) | exact L2.Px.loose_int XL (.tail _ (.tail _ (.tail _ (.head _)))) | (refine' L2.Px.const_int KX G ?a; (case a => k_is)))
      (case k_MAX_SIZE_texts => first | exact L2.Px.loose_int XL (.head _) | exact L2.Px.loose_int XL (.tail _ (.head _)) | exact L2.Px.loose_int XL (.tail _ (.tail _ (.head _))) | exact L2.Px.loose_int XL (.tail _ (.tail _ (.tail _ (.head _)))) | (refine' L2.Px.const_int KX G ?a; (case a => k_is)))
      (case k_FIRST_BYTE => first | exact L2.Px.loose_int XL (.head _) | exact L2.Px.loose_int XL (.tail _ (.head _)) | exact L2.Px.loose_int XL (.tail _ (.tail _ (.head _))) | exact L2.Px.loose_int XL (.tail _ (.tail _ (.tail _ (.head _)))) | (refine' L2.Px.const_int KX G ?a; (case a => k_is)))
      (case k_BYTE => first | exact L2.Px.loose_int XL (.head _) | exact L2.Px.loose_int XL (.tail _ (.head _)) | exact L2.Px.loose_int XL (.tail _ (.tail _ (.head _))) | exact L2.Px.loose_int XL (.tail _ (.tail _ (.tail _ (.head _)))) | (refine' L2.Px.const_int KX G ?a; (case a => k_is)))
      (case k_GROUP => first | exact L2.Px.loose_int XL (.head _) | exact L2.Px.loose_int XL (.tail _ (.head _)) | exact L2.Px.loose_int XL (.tail _ (.tail _ (.head _))) | exact L2.Px.loose_int XL (.tail _ (.tail _ (.tail _ (.head _)))) | (refine' L2.Px.const_int KX G ?a; (case a => k_is)))
      (case k_CHECKSUM_MODULUS => first | exact L2.Px.loose_int XL (.head _) | exact L2.Px.loose_int XL (.tail _ (.head _)) | exact L2.Px.loose_int XL (.tail _ (.tail _ (.head _))) | exact L2.Px.loose_int XL (.tail _ (.tail _ (.tail _ (.head _)))) | (refine' L2.Px.const_int KX G ?a; (case a => k_is)))
      (case n_isinstance => (refine' PySem.W.mg_none_of KX G ?a; (case a => k_is)))
      (case n_int => (refine' PySem.W.mg_none_of KX G ?a; (case a => k_is)))
      (case n_bool => (refine' PySem.W.mg_none_of KX G ?a; (case a => k_is)))
      (case n_str => (refine' PySem.W.mg_none_of KX G ?a; (case a => k_is)))
      (case n_len => (refine' PySem.W.mg_none_of KX G ?a; (case a => k_is)))
      (case n_all => (refine' PySem.W.mg_none_of KX G ?a; (case a => k_is)))
      (case n_tuple => (refine' PySem.W.mg_none_of KX G ?a; (case a => k_is)))
      (case n_list => (refine' PySem.W.mg_none_of KX G ?a; (case a => k_is)))
      (case n_range => (refine' PySem.W.mg_none_of KX G ?a; (case a => k_is)))
      (case n_enumerate => (refine' PySem.W.mg_none_of KX G ?a; (case a => k_is)))
      (case n_min => (refine' PySem.W.mg_none_of KX G ?a; (case a => k_is)))
      (case n_max => (refine' PySem.W.mg_none_of KX G ?a; (case a => k_is)))
      (case n_bytes => (refine' PySem.W.mg_none_of KX G ?a; (case a => k_is)))
      (case n_ValueError => (refine' PySem.W.mg_none_of KX G ?a; (case a => k_is)))
    (case hx_law => kernel_rfl)
