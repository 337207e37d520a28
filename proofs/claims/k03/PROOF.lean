import PyProof.Rows.All
import Wide.All
import OpenK.AllK
import Wide.FinOn
import HandS.ForMost
import HandS.ForExc
import HandS.EndBits
import HandS.IsInst
import HandS.Defaults
import HandS.More
import HandS.FStr
import HandS.Walk
import HandS.Strs
import PySem.Challenge.RW_seedmill_k03_rows_told
set_option Elab.async false
set_option linter.all false
set_option maxRecDepth 100000
set_option maxHeartbeats 4000000
namespace G
open PySem PySem.Spec PyProof.Rows L2

/-! ### shapes of promises: so many arguments -/
abbrev sp0 (φ : Hp → VK → XK → Prop) : Sp := fun vs H Q E => vs = [] ∧ φ H Q E
abbrev sp1 (φ : V → Hp → VK → XK → Prop) : Sp := fun vs H Q E => ∃ a, vs = [a] ∧ φ a H Q E
abbrev sp2 (φ : V → V → Hp → VK → XK → Prop) : Sp := fun vs H Q E => ∃ a b, vs = [a, b] ∧ φ a b H Q E
abbrev sp3 (φ : V → V → V → Hp → VK → XK → Prop) : Sp := fun vs H Q E => ∃ a b c, vs = [a, b, c] ∧ φ a b c H Q E
abbrev sp4 (φ : V → V → V → V → Hp → VK → XK → Prop) : Sp := fun vs H Q E => ∃ a b c d, vs = [a, b, c, d] ∧ φ a b c d H Q E

/-! ### room, and nothing that is being shown: repr needs it -/
structure Rm (k : Nat) (A : Around) : Prop where
  r : Room k A
  g : A.guards = some []
theorem Rm.mono {j k : Nat} {A : Around} (h : Rm k A) (l : j ≤ k) : Rm j A := ⟨h.r.mono l, h.g⟩
theorem Rm.deeper {k : Nat} {A : Around} (h : Rm (k + 1) A) (e : Env) : Rm k (A.deeper e) := ⟨h.r.deeper e, h.g⟩
theorem Rm.make {k : Nat} {A : Around} (h : Rm (k + 1) A) (C : Addr) (us : List Value) (kw : List (Str × Value)) : Rm k (A.under (.builtin "type.__call__" ⟨.ref C :: us, kw⟩)) :=
  ⟨h.r.make C us kw, by
    have e : (Code.builtin "type.__call__" ⟨.ref C :: us, kw⟩).guards = [] := by
      unfold Code.guards
      rw [if_neg (by simp [Code.isGuard, guardIds])]
    have e2 : (A.under (.builtin "type.__call__" ⟨.ref C :: us, kw⟩)).guards = pushGuards (Code.builtin "type.__call__" ⟨.ref C :: us, kw⟩).guards A.guards := rfl
    rw [e2, e]
    exact h.g⟩

/-- a def keeps its promise, wherever nothing is being shown -/
structure FnG (P : Program) (w : World) (K : PySem.W.Frag) (mg : Str → Option Value) (base : Heap) (k : Nat) (f : Addr) (fd : FuncData) (ps : List Str) (sp : Sp) : Prop where
  len : ∀ vs H Q E, sp vs H Q E → vs.length = ps.length
  run : ∀ (A : Around) (fr : List Env) (s : Shared) (H : Hp) (ag : Args) (us : List Value) (vs : List V) (Q : VK) (E : XK), Rm k A → Env0 P w K mg base A fr s H →
    BindsTo s fd ag (ps.zip us) → Vals vs us → sp vs H Q E → codeAny (model P w) A (.call (.ref f) ag) (CR (L2.CX P w) fr P w H s Q E) s
section
variable {P : Program} {w : World} {K : PySem.W.Frag} {mg : Str → Option Value} {base : Heap} {k : Nat} {f : Addr} {fd : FuncData} {ps : List Str} {sp sp' : Sp}
theorem FnG.mono {j : Nat} (F : FnG P w K mg base j f fd ps sp) (h : j ≤ k) : FnG P w K mg base k f fd ps sp :=
  ⟨F.len, fun A fr s H ag us vs Q E hr => F.run A fr s H ag us vs Q E (hr.mono h)⟩
theorem FnG.imp (F : FnG P w K mg base k f fd ps sp) (h : ∀ vs H Q E, sp' vs H Q E → sp vs H Q E) : FnG P w K mg base k f fd ps sp' :=
  ⟨fun vs H Q E q => F.len vs H Q E (h _ _ _ _ q), fun A fr s H ag us vs Q E hr e b v q => F.run A fr s H ag us vs Q E hr e b v (h _ _ _ _ q)⟩
theorem FnG.of (F : FnOk P w K mg base (L2.CX P w) k f fd ps sp) : FnG P w K mg base k f fd ps sp :=
  ⟨F.len, fun A fr s H ag us vs Q E hr => F.run A fr s H ag us vs Q E hr.r⟩
/-- by its body -/
theorem FnG.body {x q : Str} {pr : Arguments} {bd : List Stmt} {sc : Scope} {dV kV doc pm cdv ct oc : Value} {an od : Option Addr} {sl : Array (Option Value)} {N : List Str}
    (lk : K.lookup f = some ⟨oc, od, .func (PySem.W.fnOf x q pr bd sc dV kV doc pm an cdv ct), sl⟩) (hc : PySem.W.codeIn K cdv q = true) (S : FnScope N ps sc)
    (len : ∀ vs H Q E, sp vs H Q E → vs.length = ps.length)
    (hb : ∀ (A : Around) (fr : List Env) (s : Shared) (H : Hp) (vs : List V) (Q : VK) (E : XK), Rm k (A.deeper (envOfC q sc s.heap.objs.size f cdv)) → sp vs H Q E →
      ∃ t, PSs (cxOf (L2.CX P w) P w K mg base N q sc f cdv A fr s H E) bd t ∧ t { nx := fun _ H' => Q .non H', rt := Q } (start N vs) H) :
    FnG P w K mg base (k + 1) f (PySem.W.fnOf x q pr bd sc dV kV doc pm an cdv ct) ps sp := by
  refine ⟨len, ?_⟩
  intro A fr s H ag us vs Q E hr e0 bn rv hsp
  have el := len _ _ _ _ hsp
  have up : ∀ b o, base.get? b = some o → s.heap.get? b = some o := fun b o e => (e0.bs b o e).1
  have kin : K.In s.heap := e0.mod.kin.keeps up
  have kinds : ∀ y ∈ ps.zip us, sc.names.lookup y.1 = some .local ∨ (sc.names.lookup y.1 = some .cell ∧ ((cellsFrom (s.heap.objs.size + 1) sc.names []).lookup y.1).isSome = true) := by
    rintro ⟨n, v⟩ hy
    exact (S.par n (List.of_mem_zip hy).1).imp id fun z => ⟨z, PySem.W.cellsFrom_some _ _ _ (.inl z)⟩
  refine codeAny_call_function hr.r.depth (kin _ _ lk) rfl S.co S.gen rfl (PySem.W.codeRec_of kin hc) (bn _ _ _ _ ?_)
  refine wpAny_newFunctionEnv_cells S.kind kinds fun env he s1 ic => ?_
  subst he
  refine ⟨(e0.mod.nolimit.keeps up).keeps ic.toInCall.keep, codeAny_func ?_⟩
  obtain ⟨t, ht, hq⟩ := hb A fr s H vs Q E (hr.deeper _) hsp
  have I0 : Inv (cxOf (L2.CX P w) P w K mg base N q sc f cdv A fr s H E) [] (start N vs) H s1 := inv_start S hr.r.hd e0 el rv ic
  refine wpAny_mono (ht.run [] s1 _ H _ I0 hq) (fun fl s' hs => ?_) fun _ _ z => z
  cases fl with
  | ret u =>
    obtain ⟨v, _, H', J, r1, q1⟩ := hs
    exact ⟨v, H', J.os, J.bare, J.base, J.hok, r1, q1⟩
  | next =>
    obtain ⟨_, H', J, q1⟩ := hs
    exact ⟨V.non, H', J.os, J.bare, J.base, J.hok, rfl, q1⟩
  | brk => exact hs.elim fun _ z => z.elim fun _ y => y.2.elim
  | cont => exact hs.elim fun _ z => z.elim fun _ y => y.2.elim
end

/-! ### calls -/
section
variable {X : Cx} {k : Nat} {f C : Addr} {fd : FuncData} {ps ks : List Str} {sp : Sp} {dvs : List V} {ds : List Value} {E : XK}
/-- what a callee's end is to the caller -/
theorem end_call {pins : List (Addr × Obj)} {σ : L2.St} {H : Hp} {s s' : Shared} {Q : VK} {R : Result} (I : Inv X pins σ H s) (hx : Passes (L2.CX X.prog X.w) X E)
    (h : CR (L2.CX X.prog X.w) X.stack X.prog X.w H s Q E R s') : match R with
      | .ok (.ret u) => EP X pins σ Q u s'
      | .ok _ => False
      | .error e => X.xe e s' := by
  cases R with
  | error e => exact hx _ _ _ _ _ _ I h
  | ok fl =>
    cases fl with
    | ret u => exact I.after h
    | next => exact h
    | brk => exact h
    | cont => exact h
theorem run_g {pins : List (Addr × Obj)} {σ : L2.St} {H : Hp} {s : Shared} {Q : VK} {us : List Value} {vs : List V} (F : FnG X.prog X.w X.K X.mg X.base k f fd ps sp) (hr : Rm k X.A)
    (hb : Binds X.K fd ps ds) (hd : Vals dvs ds) (hx : Passes (L2.CX X.prog X.w) X E) (I : Inv X pins σ H s) (rv : Vals vs us) (h : sp (vs ++ dvs) H Q E) :
    wpAny (model X.prog X.w) X.A (call (.ref f) us) (EP X pins σ Q) X.xe s := by
  have r2 := rv.append hd
  have l2 := r2.length.symm.trans (F.len _ _ _ _ h)
  refine wpAny_call (codeAny_mono (F.run X.A X.stack s H ⟨us, []⟩ _ _ Q E hr I.env0 (hb s us I.kIn l2) r2 h) ?_)
  intro R s' z
  have e := end_call I hx z
  cases R with
  | error _ => exact e
  | ok fl => cases fl <;> exact e
end

/-! ### a def of the top, as it stands; as it is called -/
structure DefAt (K : PySem.W.Frag) (mg : Str → Option Value) (x : Str) (st : Stmt) (ps : List Str) (f : Addr) (fd : FuncData) : Prop where
  fn : Fun K x x st f fd
  mg : mg x = some (.ref f)
  bd : Binds K fd ps []
abbrev TopDef (K : PySem.W.Frag) (mg : Str → Option Value) (x : Str) (st : Stmt) (ps : List Str) : Prop := ∃ f fd, DefAt K mg x st ps f fd
/-- a def as its callers know it; dvs: what is left out at the end -/
structure Cal (P : Program) (w : World) (K : PySem.W.Frag) (mg : Str → Option Value) (base : Heap) (k : Nat) (x : Str) (dvs : List V) (sp : Sp) : Prop where
  ex : ∃ f fd ps ds, FnG P w K mg base k f fd ps sp ∧ mg x = some (.ref f) ∧ PySem.W.keepIn K (.ref f) = true ∧ Vals dvs ds ∧ Binds K fd ps ds
section
variable {P : Program} {w : World} {K : PySem.W.Frag} {mg : Str → Option Value} {base : Heap} {k : Nat} {x : Str} {ps : List Str} {dvs : List V} {sp sp' : Sp} {f : Addr} {fd : FuncData}
theorem Cal.mono {j : Nat} (C : Cal P w K mg base j x dvs sp) (h : j ≤ k) : Cal P w K mg base k x dvs sp := by
  obtain ⟨f, fd, ps, ds, F, z⟩ := C.ex
  exact ⟨f, fd, ps, ds, F.mono h, z⟩
theorem Cal.imp (C : Cal P w K mg base k x dvs sp) (h : ∀ vs H Q E, sp' vs H Q E → sp vs H Q E) : Cal P w K mg base k x dvs sp' := by
  obtain ⟨f, fd, ps, ds, F, z⟩ := C.ex
  exact ⟨f, fd, ps, ds, F.imp h, z⟩
/-- a def's promise, by its body -/
theorem fn_of_body {q : Str} {st : Stmt} {N : List Str} (D : Fun K x q st f fd) (S : FnScope N ps (defScope st)) (len : ∀ vs H Q E, sp vs H Q E → vs.length = ps.length)
    (hbody : ∀ (cdv : Value) (A : Around) (outer : List Env) (s : Shared) (H : Hp) (vs : List V) (Q : VK) (E : XK), Rm k (A.deeper (envOfC q (defScope st) s.heap.objs.size f cdv)) → sp vs H Q E →
      ∃ t, PSs (cxOf (L2.CX P w) P w K mg base N q (defScope st) f cdv A outer s H E) (defBody st) t ∧ t { nx := fun _ H' => Q .non H', rt := Q } (start N vs) H) : FnG P w K mg base (k + 1) f fd ps sp := by
  obtain ⟨oc, od, kV, doc, pm, an, cdv, ct, osl, rfl, lk, hcd⟩ := D.ex
  exact FnG.body lk hcd S len (hbody cdv)
theorem cal_mk {st : Stmt} (D : DefAt K mg x st ps f fd) (F : FnG P w K mg base k f fd ps sp) : Cal P w K mg base k x [] sp := ⟨f, fd, ps, [], F, D.mg, D.fn.kp, .nil, D.bd⟩
/-- what is raised by a callee is the def's own -/
theorem pass {N : List Str} {q : Str} {sc : Scope} {f : Addr} {cd : Value} {A : Around} {outer : List Env} {s : Shared} {H : Hp} {E : XK} : Passes (L2.CX P w) (cxOf (L2.CX P w) P w K mg base N q sc f cd A outer s H E) E :=
  passes_call (takes_of rfl rfl rfl rfl) fun _ _ _ _ h => h
theorem defAt_mk {h : Heap} {st : Stmt} {f : Addr} {od an : Option Addr} {sl : Array (Option Value)} {oc kV dc pm cd ct : Value} (X : K.In h) (g : h.Ns mainGlobals mg)
    (a : PySem.W.nsIn K mainGlobals x = some (some (.ref f))) (l : K.lookup f = some ⟨oc, od, .func (PySem.W.fnOf x x (defArgs st) (defBody st) (defScope st) .none kV dc pm an cd ct), sl⟩)
    (c : PySem.W.codeIn K cd x = true) (kp : PySem.W.keepIn K (.ref f) = true)
    (b : ∀ (kV doc pm : Value) (an : Option Addr) (cdv ct : Value) (us : List Value), us.length = ps.length → bindArgs (PySem.W.fnOf x x (defArgs st) (defBody st) (defScope st) .none kV doc pm an cdv ct) ⟨us, []⟩ = pure (ps.zip us)) :
    TopDef K mg x st ps :=
  ⟨f, _, fun_mk (st := st) l c kp, PySem.W.mg_of X g a, (fun_mk (st := st) l c kp).binds b⟩
end
section
variable {X : Cx} {k : Nat} {x : Str} {dvs : List V} {sp : Sp} {E : XK} {e : Expr} {es : List Expr} {t : TA} {p pos : Pos}
/-- f(e, ..) -/
theorem pe_c (C : Cal X.prog X.w X.K X.mg X.base k x dvs sp) (hr : Rm k X.A) (hx : Passes (L2.CX X.prog X.w) X E) (ha : PA X (e :: es) t) (hg : Gl X x := by rfl) (hdb : (x == ("__debug__" : Str)) = false := by decide)
    (hs : starEach (e :: es) X.env = (false, eval e X.env) :: starEach es X.env := by rfl) (hn : (backTo pos (starEach es X.env)).any (·.1) = false := by rfl) : PE X (.Call (.Name x p) (e :: es) [] pos) (tCall sp dvs E t) := by
  obtain ⟨f, fd, ps, ds, F, m, kp, hd, b⟩ := C.ex
  refine ⟨fun pins s σ H Q I h => wpAny_Call_Name_kw (ld_glob I hg m ?_ hdb)⟩
  exact PySem.W.callWith_K (h₀ := X.base) I.ok.mod.kin kp (thn (ha.run pos pins s σ H _ I h) fun us s1 ⟨vs, H1, I1, rv, q⟩ => ⟨I1.kIn, run_g F hr b hd hx I1 rv q⟩) hs hn
theorem pe_c0 (C : Cal X.prog X.w X.K X.mg X.base k x dvs sp) (hr : Rm k X.A) (hx : Passes (L2.CX X.prog X.w) X E) (hg : Gl X x := by rfl) (hdb : (x == ("__debug__" : Str)) = false := by decide) :
    PE X (.Call (.Name x p) [] [] pos) (tCall sp dvs E tNil) := by
  obtain ⟨f, fd, ps, ds, F, m, kp, hd, b⟩ := C.ex
  exact ⟨fun pins s σ H Q I h => wpAny_Call_Name_kw (ld_glob I hg m (PySem.W.callWith_K0 I.kIn kp (run_g (us := []) F hr b hd hx I .nil h)) hdb)⟩
/-- a module's int -/
theorem pe_gi {i : Int} (h : ∃ t, X.mg x = some (.int i t)) (hg : Gl X x := by rfl) (hd : (x == ("__debug__" : Str)) = false := by decide) : PE X (.Name x pos) (tC (.int i)) := by
  obtain ⟨t, h⟩ := h
  exact pe_glob hg h ⟨t, rfl⟩ hd
theorem pe_gs {i : Str} (h : ∃ t, X.mg x = some (.str i t)) (hg : Gl X x := by rfl) (hd : (x == ("__debug__" : Str)) = false := by decide) : PE X (.Name x pos) (tC (.str i)) := by
  obtain ⟨t, h⟩ := h
  exact pe_glob hg h ⟨t, rfl⟩ hd
end

/-! ### the law's call -/
section
variable {P : Program} {w : World} {K : PySem.W.Frag} {mg mb : Str → Option Value} {k : Nat} {fa a : Addr} {fd : FuncData} {x : Str} {sp : Sp} {s₁ : Shared} {vs : List Value} {ns : List Int}
abbrev LawEnd (s₁ : Shared) (r : Result) (s' : Shared) : Prop := r = .ok (.ret (.bool true)) ∧ OldK s₁.heap s'.heap ∧ s'.os = s₁.os ∧ AllBare s'.gens
/-- from an abstract heap that tracks nothing but, perhaps, the script, locked -/
theorem law_in {H : Hp} (KX : K.In s₁.heap) (hns : s₁.heap.Ns mainGlobals mg) (hb : s₁.heap.Ns builtinsNs mb) (hbb : ∀ y : Str, y ≠ "__name__" → mb y = bootBuiltins y) (hlim : s₁.heap.NoLimit) (hg : s₁.gens = #[])
    (hr : Rm k callerA) (F : ∀ base : Heap, K.In base → base.Ns mainGlobals mg → FnG P w K mg base k fa fd [x] sp) (bnd : ∀ (s : Shared) (u : Value), BindsTo s fd ⟨[u], []⟩ [(x, u)])
    (ok : HOk P w H s₁.heap) (only : ∀ b, H b = none ∨ ∃ o ys, H b = some (.frz o (.lst ys))) (nk : ∀ b o, K.lookup b = some o → H b = none) (nd : ∀ b o es ep, s₁.heap.get? b = some o → o.data = .dict es ep → H b = none)
    (hsp : sp [.ref a] H (fun v _ => v = .bl true) fun _ _ _ => False) :
    codeAny (model P w) callerA (.call (.ref fa) ⟨[.ref a], []⟩) (LawEnd s₁) s₁ := by
  have ns_in : ∀ {b : Addr} {m : Str → Option Value}, s₁.heap.Ns b m → (hidT s₁.heap H).Ns b m := by
    rintro b m ⟨o, es, ep, e, d, z⟩
    exact ⟨o, es, ep, hidT_get e (nd b o es ep e d), d, z⟩
  have K0 : K.In (hidT s₁.heap H) := fun b o e => hidT_get (KX b o e) (nk b o e)
  obtain ⟨mc, c1, c2⟩ := hlim
  have M0 : Mod K mg (hidT s₁.heap H) := ⟨K0, ns_in hns, ⟨mb, ns_in hb, hbb⟩, ⟨mc, ns_in c1, c2⟩⟩
  have e0 : Env0 P w K mg (hidT s₁.heap H) callerA [] s₁ H :=
    ⟨rfl, M0, fun _ _ e => of_hidT e, Nat.le_of_eq (hidT_size _ _), trivial, fun b hb => (List.not_mem_nil (show b ∈ ([] : List Addr) from hb)).elim, ok, .of_eq hg⟩
  have run := (F _ K0 (ns_in hns)).run callerA [] s₁ H ⟨[.ref a], []⟩ [.ref a] [.ref a] _ _ hr e0 (bnd s₁ (.ref a)) (.cons rfl .nil) hsp
  refine codeAny_mono run fun r s' z => ?_
  cases r with
  | error e =>
    obtain ⟨_, _, _, _, _, _, _, _, _, _, _, _, y⟩ := z
    exact y.elim
  | ok fl =>
    cases fl with
    | ret u =>
      obtain ⟨v, H', os, bare, un, ok', r1, q⟩ := z
      cases (show v = .bl true from q)
      cases (show u = Value.bool true from r1)
      refine ⟨rfl, OldK.of_keep fun b o e => ?_, os, bare⟩
      rcases only b with y | ⟨ob, ys, y⟩
      · exact un.keep b o e y (fun z => List.not_mem_nil (show b ∈ ([] : List Addr) from z)) List.not_mem_nil
      · have e2 := (ok' b _ (un.frzs b ob _ y)).1
        have e1 := (ok b _ y).1
        rw [e] at e1
        cases e1
        exact e2
    | next => exact z.elim
    | brk => exact z.elim
    | cont => exact z.elim
theorem law_run (KX : K.In s₁.heap) (hns : s₁.heap.Ns mainGlobals mg) (hb : s₁.heap.Ns builtinsNs mb) (hbb : ∀ y : Str, y ≠ "__name__" → mb y = bootBuiltins y) (hlim : s₁.heap.NoLimit) (hg : s₁.gens = #[])
    (ha : s₁.heap.get? a = some { cls := .type "list", data := .seq vs.toArray }) (hi : IntsAre vs ns) (hl : ns.length ≤ sizeLine) (hr : Rm k callerA)
    (F : ∀ base : Heap, K.In base → base.Ns mainGlobals mg → FnG P w K mg base k fa fd [x] sp) (bnd : ∀ (s : Shared) (u : Value), BindsTo s fd ⟨[u], []⟩ [(x, u)])
    (hsp : ∀ H : Hp, SqL K H a (ns.map V.int) → sp [.ref a] H (fun v _ => v = .bl true) fun _ _ _ => False) :
    codeAny (model P w) callerA (.call (.ref fa) ⟨[.ref a], []⟩) (LawEnd s₁) s₁ := by
  have rv := vals_ints hi
  have ln := hi.length
  by_cases hk : ∃ o, K.lookup a = some o
  · -- the script is an object of the module's own
    obtain ⟨o, hk⟩ := hk
    have e := KX a o hk
    rw [ha] at e
    cases e
    refine law_in (H := fun _ => none) KX hns hb hbb hlim hg hr F bnd (fun _ _ z => nomatch z) (fun _ => .inl rfl) (fun _ _ _ => rfl) (fun _ _ _ _ _ _ => rfl) (hsp _ (.inr ⟨_, vs.toArray, _, hk, rfl, rfl, rfl, ?_, ?_⟩))
    · rw [List.size_toArray, ln]
      exact hl
    · simpa using rv
  · let H : Hp := fun b => if b = a then some (.frz { cls := .type "list", data := .seq vs.toArray } (.lst (ns.map V.int))) else none
    have at_a : H a = some (.frz { cls := .type "list", data := .seq vs.toArray } (.lst (ns.map V.int))) := if_pos rfl
    have off : ∀ b, b ≠ a → H b = none := fun b h => if_neg h
    refine law_in (H := H) KX hns hb hbb hlim hg hr F bnd (fun b u z => ?_) (fun b => ?_) (fun b o z => ?_) (fun b o es ep z d => ?_) (hsp H (.inl (.inr ⟨_, at_a⟩)))
    · by_cases e : b = a
      · subst e
        rw [at_a] at z
        cases z
        exact ⟨ha, by rw [List.length_map]; exact hl, vs, _, rv, ha⟩
      · rw [off b e] at z
        cases z
    · by_cases e : b = a
      · exact .inr ⟨_, _, by rw [e]; exact at_a⟩
      · exact .inl (off b e)
    · exact off b fun e => hk ⟨o, e ▸ z⟩
    · refine off b fun e => ?_
      rw [e, ha] at z
      cases z
      have d' : Data.seq vs.toArray _ = Data.dict es ep := d
      cases d'
end
/-- the promise of every law: whatever the script, True -/
abbrev S_of_law (K : PySem.W.Frag) : Sp := sp1 fun a H Q _ => ∃ (ns : List Int) (p : Addr), a = .ref p ∧ SqL K H p (ns.map V.int) ∧ ns.length ≤ 63 ∧ (∀ z ∈ ns, Builtin.Int.intBits z ≤ 1048576) ∧ ∀ H', Q (.bl true) H'
theorem law_walk {l : PySem.W.OpenLaw} {k : Nat} {q : Program} {loose : List Str} {XP : (Str → Option Value) → Heap → Prop} {YP : World → Heap → Prop} {d : DefRec} {K : Params → PySem.W.Frag} {x : Str}
    (hn : l.most = some 63) (hdf : d.params.defaults = []) (hr : Rm k callerA) (hY : ∀ (w : World) (h : Heap), YP w h → (K w.params).In h)
    (F : ∀ (w : World) (mg : Str → Option Value) (fa : Addr) (h : Heap), (K w.params).In h → h.Ns mainGlobals mg → mg d.name = some (.ref fa) →
      ∃ fd : FuncData, (∀ (s : Shared) (u : Value), BindsTo s fd ⟨[u], []⟩ [(x, u)]) ∧
        ∀ base : Heap, (K w.params).In base → base.Ns mainGlobals mg → FnG l.prog w (K w.params) mg base k fa fd [x] (S_of_law (K w.params))) :
    PySem.W.WalkO q loose XP YP l.row.toRowW d [] (fun f vs => PySem.call f vs) := by
  refine Att.attach_callB hn hdf fun w s₀ s₁ mg mb fa o pm cd doc a vs ns G Y ho hd hcd hmg hobj hints hlen hbits hg => ?_
  have KX := hY w _ Y
  obtain ⟨fd, hb, hF⟩ := F w mg fa _ KX G.T.g hmg
  exact law_run KX G.T.g G.T.b G.T.builtins G.T.nolimit hg hobj hints (Nat.le_trans hlen (by decide)) hr hF hb fun H hS => ⟨_, rfl, ns, a, rfl, hS, hlen, hbits, fun _ => rfl⟩
end G
namespace G
open PySem PySem.Spec PyProof.Rows L2
/-! ### tuples of the module -/
/-- a tuple that the top has written -/
def SqTK (K : PySem.W.Frag) (a : Addr) (xs : List V) : Prop :=
  ∃ (o : Obj) (its : Array Value) (n : Nat), K.lookup a = some o ∧ o.cls = .type "tuple" ∧ o.data = .seq its n ∧ its.size ≤ sizeLine ∧ Vals xs its.toList ∧ o.dict = none
theorem SqTK.sq {K : PySem.W.Frag} {a : Addr} {xs : List V} (h : SqTK K a xs) (H : Hp) : SqT K H a xs := by
  obtain ⟨o, its, n, h1, h2, h3, h4, h5, _⟩ := h
  exact .inr ⟨o, its, n, h1, h2, h3, h4, h5⟩
theorem SqTK.ty {K : PySem.W.Frag} {a : Addr} {xs : List V} (h : SqTK K a xs) (H : Hp) : tyV K "tuple" (.ref a) H := by
  obtain ⟨o, its, n, h1, h2, h3, h4, h5, h6⟩ := h
  exact .inr (.inl ⟨rfl, o, h1, h2, h6⟩)
theorem sqTK_mk {K : PySem.W.Frag} {a : Addr} {xs : List V} {us : List Value} {n : Nat} {sl : Array (Option Value)} (l : K.lookup a = some ⟨.type "tuple", none, .seq us.toArray n, sl⟩) (v : Vals xs us) (h : xs.length ≤ 1000 := by decide) : SqTK K a xs :=
  ⟨_, us.toArray, n, l, rfl, rfl, by rw [List.size_toArray, ← v.length]; exact Nat.le_trans h (by decide), by simpa using v, rfl⟩

/-! ### exceptions of the program without an __init__ of their own -/
abbrev veTail : List Value := [.type "ValueError", .type "Exception", .type "BaseException", .type "object"]
structure ExcAt (K : PySem.W.Frag) (mg : Str → Option Value) (x : Str) : Prop where
  ex : ∃ C, mg x = some (.ref C) ∧ PySem.W.excIn K C veTail "ValueError.__new__" = true ∧ PySem.W.keepIn K (.ref C) = true ∧ PySem.W.subIn K (.ref C) (.type "BaseException") = some true ∧ PySem.W.typeIn K (.ref C) = some (.type "type") ∧
    PySem.W.isClsIn K C = true ∧ PySem.W.subIn K (.ref C) (.ref C) = some true
theorem excAt_mk {K : PySem.W.Frag} {mg : Str → Option Value} {h : Heap} {x : Str} {C : Addr} (X : K.In h) (g : h.Ns mainGlobals mg) (a : PySem.W.nsIn K mainGlobals x = some (some (.ref C)))
    (e : PySem.W.excIn K C veTail "ValueError.__new__" = true) (kp : PySem.W.keepIn K (.ref C) = true) (b : PySem.W.subIn K (.ref C) (.type "BaseException") = some true) (t : PySem.W.typeIn K (.ref C) = some (.type "type"))
    (i : PySem.W.isClsIn K C = true) (s : PySem.W.subIn K (.ref C) (.ref C) = some true) : ExcAt K mg x := ⟨C, PySem.W.mg_of X g a, e, kp, b, t, i, s⟩
/-- raise x('m') -/
theorem pmk_own {X : Cx} {x m : Str} {j : Nat} {p p2 pos : Pos} (k : ExcAt X.K X.mg x) (hg : Gl X x := by rfl) (hdb : (x == ("__debug__" : Str)) = false := by decide) :
    PMk X (.Call (.Name x p) [.Constant (.str m) j p2] [] pos) (fun _ H Q => ∀ C, X.mg x = some (.ref C) → Q (.ref C) none H) := by
  obtain ⟨C, mg, e, kp, b, t, _, _⟩ := k.ex
  intro pins s σ H Q I h
  exact L2.pmk_own PySem.F.excBase_ValueError e mg kp (raises_own b t) hg hdb pins s σ H Q I (h C mg)

/-! ### repr -/
/-- any data: none, bools, ints, texts, lists, tuples -/
def rRepr (K : PySem.W.Frag) : List V → Hp → VK → Prop := fun xs H Q => ∃ x d, xs = [x] ∧ Dp K H x d ∧ d.showable = true ∧ d.depth ≤ 60 ∧ d.shown.length ≤ sizeLine ∧ Q (.str d.shown) H
theorem noDict {K : PySem.W.Frag} {H : Hp} {a : Addr} {d : PyData} (h : Dp K H (.ref a) d) : (∃ ds, d = .list ds) ∨ ∃ ds, d = .tuple ds := by
  cases h with
  | lst _ _ => exact .inl ⟨_, rfl⟩
  | tup _ _ => exact .inr ⟨_, rfl⟩
mutual
theorem noDictD {K : PySem.W.Frag} {H : Hp} : ∀ {v : V} {d : PyData}, Dp K H v d → d.hasDict = false
  | _, _, .non => rfl
  | _, _, .bl _ => rfl
  | _, _, .int _ => rfl
  | _, _, .str _ => rfl
  | _, _, .lst _ h => by
    show PyData.hasDictAll _ = false
    exact noDictA h
  | _, _, .tup _ h => by
    show PyData.hasDictAll _ = false
    exact noDictA h
theorem noDictA {K : PySem.W.Frag} {H : Hp} : ∀ {vs : List V} {ds : List PyData}, DpAll K H vs ds → PyData.hasDictAll ds = false
  | _, _, .nil => rfl
  | _, _, .cons h t => by
    show (PyData.hasDict _ || PyData.hasDictAll _) = false
    rw [noDictD h, noDictA t]
    rfl
end
theorem call_repr {X : Cx} {k : Nat} (hr : Rm k X.A) : CallR X (.builtin "repr") (rRepr X.K) := by
  intro pins s σ H xs us Q I r h
  obtain ⟨x, d, rfl, hd, hs, hdp, hz, q⟩ := h
  obtain ⟨u, rfl, ru⟩ := vals1 r
  have un := hr.r.units
  cases hd with
  | non =>
    cases ru
    exact PySem.P.repr_of_none ⟨.str _, H, I.tok _, ⟨_, rfl⟩, by rw [PyData.shown_none] at q; exact q⟩
  | bl b =>
    cases ru
    exact PySem.P.repr_of_bool ⟨.str _, H, I.tok _, ⟨_, rfl⟩, by rw [PyData.shown_bool] at q; exact q⟩
  | int i =>
    obtain ⟨t, rfl⟩ := ru
    exact PySem.P.repr_of_int (by simpa [PyData.showable] using hs) ⟨.str _, H, I.tok _, ⟨_, rfl⟩, by rw [PyData.shown_int] at q; exact q⟩
  | str y =>
    obtain ⟨t, rfl⟩ := ru
    exact PySem.P.repr_of_str ⟨.str _, H, I.tok _, ⟨_, rfl⟩, by rw [PyData.shown_str] at q; exact q⟩ (by rw [PyData.shown_str] at hz; exact hz)
  | lst h1 h2 =>
    cases ru
    have hd2 : Dp X.K H (.ref _) (.list _) := .lst h1 h2
    obtain ⟨as, rd⟩ := Dp.reads I _ _ _ hd2 rfl
    refine repr_of_reads' rd hs (fun z => by rw [noDictD hd2] at z; cases z) hr.g (by omega) (fun _ _ e => e) (fun h' u tk keep => ?_) hz
    exact ⟨.str _, H, I.kept keep, ⟨_, rfl⟩, q⟩
  | tup h1 h2 =>
    cases ru
    have hd2 : Dp X.K H (.ref _) (.tuple _) := .tup h1 h2
    obtain ⟨as, rd⟩ := Dp.reads I _ _ _ hd2 rfl
    refine repr_of_reads' rd hs (fun z => by rw [noDictD hd2] at z; cases z) hr.g (by omega) (fun _ _ e => e) (fun h' u tk keep => ?_) hz
    exact ⟨.str _, H, I.kept keep, ⟨_, rfl⟩, q⟩

/-! ### defs with defaults -/
structure DefD (K : PySem.W.Frag) (mg : Str → Option Value) (x : Str) (st : Stmt) (dvs : List V) (f : Addr) (fd : FuncData) : Prop where
  fn : FunD K x x (defArgs st) (defBody st) (defScope st) dvs [] f fd
  mg : mg x = some (.ref f)
abbrev TopDefD (K : PySem.W.Frag) (mg : Str → Option Value) (x : Str) (st : Stmt) (dvs : List V) : Prop := ∃ f fd, DefD K mg x st dvs f fd
theorem defAtD_mk {K : PySem.W.Frag} {mg : Str → Option Value} {x : Str} {h : Heap} {st : Stmt} {d : V} {dvs : List V} {f T : Addr} {od an dd : Option Addr} {sl sl2 : Array (Option Value)} {oc kV dc pm cd ct : Value} {us : List Value} {n : Nat} (X : K.In h) (g : h.Ns mainGlobals mg)
    (a : PySem.W.nsIn K mainGlobals x = some (some (.ref f))) (l : K.lookup f = some ⟨oc, od, .func (PySem.W.fnOf x x (defArgs st) (defBody st) (defScope st) (.ref T) kV dc pm an cd ct), sl⟩)
    (c : PySem.W.codeIn K cd x = true) (kp : PySem.W.keepIn K (.ref f) = true) (t : K.lookup T = some ⟨.type "tuple", dd, .seq us.toArray n, sl2⟩) (v : Vals (d :: dvs) us) : TopDefD K mg x st (d :: dvs) :=
  ⟨f, _, ⟨⟨oc, od, _, kV, dc, pm, an, cd, ct, sl, rfl, l, c, .inr ⟨(fun z => nomatch z), T, _, us, n, rfl, t, rfl, v⟩, .inl rfl⟩, kp⟩, PySem.W.mg_of X g a⟩
section
variable {P : Program} {w : World} {K : PySem.W.Frag} {mg : Str → Option Value} {base : Heap} {k : Nat} {x : Str} {ps : List Str} {dvs : List V} {sp : Sp} {f : Addr} {fd : FuncData}
theorem fn_of_bodyD {q : Str} {st : Stmt} {N : List Str} (D : FunD K x q (defArgs st) (defBody st) (defScope st) dvs [] f fd) (S : FnScope N ps (defScope st)) (len : ∀ vs H Q E, sp vs H Q E → vs.length = ps.length)
    (hbody : ∀ (cdv : Value) (A : Around) (outer : List Env) (s : Shared) (H : Hp) (vs : List V) (Q : VK) (E : XK), Rm k (A.deeper (envOfC q (defScope st) s.heap.objs.size f cdv)) → sp vs H Q E →
      ∃ t, PSs (cxOf (L2.CX P w) P w K mg base N q (defScope st) f cdv A outer s H E) (defBody st) t ∧ t { nx := fun _ H' => Q .non H', rt := Q } (start N vs) H) : FnG P w K mg base (k + 1) f fd ps sp := by
  obtain ⟨oc, od, dV, kV, doc, pm, an, cdv, ct, osl, rfl, lk, hcd, _, _⟩ := D.ex
  exact FnG.body lk hcd S len (hbody cdv)
/-- called with n values, the last defaults filling up (those behind the first j) -/
theorem cal_mkD {st : Stmt} (D : DefD K mg x st dvs f fd) (F : FnG P w K mg base k f fd ps sp) (n j : Nat) (hd : dvs ≠ []) (hn : n + (dvs.length - j) = ps.length)
    (h : ∀ (T : Addr) (kV doc pm : Value) (an : Option Addr) (cdv ct : Value) (us its : List Value), us.length = n → its.length = dvs.length →
      ∃ k, bindArgs (PySem.W.fnOf x x (defArgs st) (defBody st) (defScope st) (.ref T) kV doc pm an cdv ct) ⟨us, []⟩ = seqItems? (.ref T) >>= k ∧ k (some its.toArray) = pure (ps.zip (us ++ its.drop j))) :
    Cal P w K mg base k x (dvs.drop j) sp := by
  obtain ⟨ds, r, b⟩ := D.fn.binds1 n j hd hn h
  exact ⟨f, fd, ps, ds, F, D.mg, D.fn.kp, r, b⟩
end

/-! ### calls by keywords alone -/
/-- a def called by its names: ks the names as they stand, g puts the values in the parameters' order -/
structure CalK (P : Program) (w : World) (K : PySem.W.Frag) (mg : Str → Option Value) (base : Heap) (k : Nat) (x : Str) (ks : List Str) (gV : List V → List V → List V) (sp : Sp) : Prop where
  ex : ∃ f fd ps, ∃ g : List Value → List Value → List Value, FnG P w K mg base k f fd ps sp ∧ mg x = some (.ref f) ∧ PySem.W.keepIn K (.ref f) = true ∧ KBinds K fd ps ks g gV
section
variable {P : Program} {w : World} {K : PySem.W.Frag} {mg : Str → Option Value} {base : Heap} {k : Nat} {x : Str} {ps ks : List Str} {dvs : List V} {sp : Sp} {f : Addr} {fd : FuncData}
/-- all given, no defaults -/
theorem calK_mk {st : Stmt} {g : {α : Type} → List α → List α → List α} (D : DefAt K mg x st ps f fd) (F : FnG P w K mg base k f fd ps sp)
    (hrel : ∀ {vs zs : List V} {us ws : List Value}, Vals vs us → Vals zs ws → Vals (g vs zs) (g us ws))
    (h : ∀ (kV doc pm : Value) (an : Option Addr) (cdv ct : Value) (us ws : List Value), (g us ws).length = ps.length → bindArgs (PySem.W.fnOf x x (defArgs st) (defBody st) (defScope st) .none kV doc pm an cdv ct) ⟨us, ks.zip ws⟩ = pure (ps.zip (g us ws))) :
    CalK P w K mg base k x ks g sp := by
  obtain ⟨oc, od, kV, doc, pm, an, cdv, ct, osl, e, _⟩ := D.fn.ex
  refine ⟨f, fd, ps, g, F, D.mg, D.fn.kp, ⟨fun s us ws _ hl => ?_, hrel⟩⟩
  subst e
  exact .of_eq (h kV doc pm an cdv ct us ws hl)
/-- all given, defaults there, not used -/
theorem calK_mkD {st : Stmt} {g : {α : Type} → List α → List α → List α} (D : DefD K mg x st dvs f fd) (hd : dvs ≠ []) (F : FnG P w K mg base k f fd ps sp)
    (hrel : ∀ {vs zs : List V} {us ws : List Value}, Vals vs us → Vals zs ws → Vals (g vs zs) (g us ws))
    (h : ∀ (T : Addr) (kV doc pm : Value) (an : Option Addr) (cdv ct : Value) (us its ws : List Value), (g us ws).length = ps.length → its.length = dvs.length →
      ∃ k, bindArgs (PySem.W.fnOf x x (defArgs st) (defBody st) (defScope st) (.ref T) kV doc pm an cdv ct) ⟨us, ks.zip ws⟩ = seqItems? (.ref T) >>= k ∧ k (some its.toArray) = pure (ps.zip (g us ws))) :
    CalK P w K mg base k x ks g sp := by
  obtain ⟨oc, od, dV, kV, doc, pm, an, cdv, ct, osl, rfl, lk, hcd, hD, hK⟩ := D.fn.ex
  rcases hD with ⟨e, _⟩ | ⟨_, T, o, its, m, rfl, lT, oT, rT⟩
  · exact absurd e hd
  · refine ⟨f, _, ps, g, F, D.mg, D.fn.kp, ⟨fun s us ws X hl => ?_, hrel⟩⟩
    obtain ⟨k, e1, e2⟩ := h T kV doc pm an cdv ct us its ws hl rT.length.symm
    refine BindsTo.of_looks fun M => ?_
    rw [e1]
    exact looks_items X lT oT (.of_pure e2)
end
section
variable {X : Cx} {k : Nat} {x : Str} {ks : List Str} {gV : List V → List V → List V} {sp : Sp} {E : XK} {e : Expr} {es : List Expr} {kws : List Keyword} {t tk : TA} {p pos : Pos}
theorem run_gk {pins : List (Addr × Obj)} {σ : L2.St} {H : Hp} {s : Shared} {Q : VK} {f : Addr} {fd : FuncData} {ps : List Str} {us ws : List Value} {vs zs : List V} {g : List Value → List Value → List Value} (F : FnG X.prog X.w X.K X.mg X.base k f fd ps sp) (hr : Rm k X.A)
    (hb : KBinds X.K fd ps ks g gV) (hx : Passes (L2.CX X.prog X.w) X E) (I : Inv X pins σ H s) (rv : Vals vs us) (rz : Vals zs ws) (h : sp (gV vs zs) H Q E) :
    wpAny (model X.prog X.w) X.A (call (.ref f) us (ks.zip ws)) (EP X pins σ Q) X.xe s := by
  have r2 := hb.rel rv rz
  have l2 := r2.length.symm.trans (F.len _ _ _ _ h)
  refine wpAny_call (codeAny_mono (F.run X.A X.stack s H ⟨us, ks.zip ws⟩ _ _ Q E hr I.env0 (hb.to s us ws I.kIn l2) r2 h) ?_)
  intro R s' z
  have e := end_call I hx z
  cases R with
  | error _ => exact e
  | ok fl => cases fl <;> exact e
theorem pe_ck0 (C : CalK X.prog X.w X.K X.mg X.base k x ks gV sp) (hr : Rm k X.A) (hx : Passes (L2.CX X.prog X.w) X E) (hkw : PK X kws tk) (hg : Gl X x := by rfl) (hall : (backToKw pos (keywordEach kws X.env)).all (·.1.isSome) = true := by rfl)
    (hks : (backToKw pos (keywordEach kws X.env)).filterMap (·.1) = ks := by rfl) (hdb : (x == ("__debug__" : Str)) = false := by decide)
    (hpl : ((backTo pos (starEach [] X.env)).any (·.1) || (backToKw pos (keywordEach kws X.env)).any (·.1.isNone)) = false := by rfl) :
    PE X (.Call (.Name x p) [] kws pos) (fun σ H Q => tk σ H fun zs H1 => sp (gV [] zs) H1 Q E) := by
  obtain ⟨f, fd, ps, g, F, m, kp, b⟩ := C.ex
  refine ⟨fun pins s σ H Q I h => wpAny_Call_Name_kw (ld_glob I hg m ?_ hdb)⟩
  refine PySem.W.callWith_KW0 (h₀ := X.base) I.ok.mod.kin kp hall ?_ hpl
  refine thn (hkw.run pos pins s σ H _ I h) fun ws s1 ⟨zs, H1, I1, rz, q⟩ => ⟨I1.kIn, ?_⟩
  rw [hks]
  exact run_gk (us := []) F hr b hx I1 .nil rz q
end
end G
namespace G
open PySem PySem.Spec PyProof.Rows L2
/-! ### isinstance of things of the built-in kinds -/
inductive Thing (K : PySem.W.Frag) (H : Hp) : V → String → Prop where
  | non : Thing K H .non "NoneType"
  | bl (b : Bool) : Thing K H (.bl b) "bool"
  | int (i : Int) : Thing K H (.int i) "int"
  | str (x : Str) : Thing K H (.str x) "str"
  | lst {a : Addr} (h : TyX K H (.ref a) (.type "list")) : Thing K H (.ref a) "list"
  | tup {a : Addr} (h : TyX K H (.ref a) (.type "tuple")) : Thing K H (.ref a) "tuple"
  | dict {a : Addr} (h : TyX K H (.ref a) (.type "dict")) : Thing K H (.ref a) "dict"
theorem Thing.ty {K : PySem.W.Frag} {H : Hp} {v : V} {n : String} (h : Thing K H v n) : TyX K H v (.type n) := by
  cases h with
  | non => exact .base .non
  | bl b => exact .base (.bl b)
  | int i => exact .base (.int i)
  | str x => exact .base (.str x)
  | lst h => exact h
  | tup h => exact h
  | dict h => exact h
abbrev plainTys : List String := ["NoneType", "bool", "int", "str", "list", "tuple", "dict"]
theorem Thing.name {K : PySem.W.Frag} {H : Hp} {v : V} {n : String} (h : Thing K H v n) : n ∈ plainTys := by
  cases h <;> decide
def subB (n m : String) : Bool := n == m || (n == "bool" && m == "int")
theorem kit_plain : ∀ n ∈ plainTys, ∀ m ∈ plainTys, kitB n m = some (subB n m) := by decide +kernel
def rIsB (K : PySem.W.Frag) : List V → Hp → VK → Prop := fun xs H Q => ∃ x n m, xs = [x, .ty m] ∧ Thing K H x n ∧ m ∈ plainTys ∧ Q (.bl (subB n m)) H
theorem call_isB {X : Cx} : CallR X (.builtin "isinstance") (rIsB X.K) := by
  intro pins s σ H xs us Q I r h
  obtain ⟨x, n, m, rfl, th, hm, q⟩ := h
  exact call_isi pins s σ H _ us Q I r ⟨x, .ty m, .type n, .type m, _, rfl, .ty m, th.ty, kit_ty (kit_plain n th.name m hm), q⟩
def isIntV : V → Bool
  | .int _ => true
  | _ => false
theorem isInt_of {K : PySem.W.Frag} {H : Hp} {v : V} {n : String} (h : Thing K H v n) : (subB n "int" && !subB n "bool") = isIntV v := by
  cases h <;> rfl
/-- a whole number from one to another -/
def btwV (v : V) (lo hi : Int) : Bool := match v with
  | .int i => decide (lo ≤ i) && decide (i ≤ hi)
  | _ => false
theorem btwV_ex {v : V} {lo hi : Int} (h : btwV v lo hi = true) : ∃ i, v = .int i ∧ lo ≤ i ∧ i ≤ hi := by
  cases v with
  | int i =>
    simp only [btwV, Bool.and_eq_true, decide_eq_true_eq] at h
    exact ⟨i, rfl, h⟩
  | _ => cases h
theorem btwV_int {i lo hi : Int} (h : lo ≤ i ∧ i ≤ hi) : btwV (.int i) lo hi = true := by
  simp only [btwV, Bool.and_eq_true, decide_eq_true_eq]
  exact h
end G
namespace G
open PySem PySem.Spec PyProof.Rows L2
theorem atI_int {α : Type} {xs : List α} {k : Int} {v : α} (h0 : 0 ≤ k) (h : xs[k.toNat]? = some v) : atI xs k = some v := by
  have e := atI_nat h
  rwa [Int.toNat_of_nonneg h0] at e
theorem upd_old {H : Hp} {p r : Addr} {o x : HO} (h : H r = some x) (f : H p = none) : upd H p o r = some x := by
  rw [upd_ne (ne_of_none h f)]
  exact h
theorem upd_oth {H : Hp} {p r : Addr} {o x : HO} (h : H r = some x) (ne : r ≠ p) : upd H p o r = some x := by
  rw [upd_ne ne]
  exact h
theorem rep_ints (k : Nat) (i : Int) : (List.replicate k [V.int i]).flatten = (List.replicate k i).map V.int := by
  induction k with
  | zero => rfl
  | succ k ih => rw [List.replicate_succ, List.flatten_cons, ih, List.replicate_succ]; rfl
theorem sum_rep (k : Nat) (i : Int) : (List.replicate k i).sum = (k : Int) * i := by
  induction k with
  | zero => simp
  | succ k ih => rw [List.replicate_succ, List.sum_cons, ih, Int.natCast_add, Int.add_mul]; omega
end G
namespace G
open PySem PySem.Spec PyProof.Rows L2
theorem sqL_up {K : PySem.W.Frag} {H : Hp} {a p : Addr} {o : HO} {xs : List V} (h : SqL K H a xs) (f : H p = none) : SqL K (upd H p o) a xs :=
  Same.seq (fun _ _ e => upd_old e f) h
theorem atL {H : Hp} {a b : Addr} {xs ys : List V} (h : H a = some (.lst xs)) (h' : H b = some (.lst ys)) (d : xs ≠ ys) : a ≠ b :=
  ne_of h h' fun e => d (HO.lst.inj e)
end G
namespace G
open PySem PySem.Spec PyProof.Rows L2
/-! ### data whose repr is short enough, by a look at its leaves -/
mutual
def fine : PyData → Bool
  | .none | .bool _ => true
  | .int i => decide (i.natAbs < 10 ^ 12)
  | .str x => PyData.strOk x && x.cps.toList.all fun c => decide (c < 16 ^ 8)
  | .list xs | .tuple xs => fineAll xs
  | .dict _ => false
def fineAll : List PyData → Bool
  | [] => true
  | x :: xs => fine x && fineAll xs
end
theorem log_fine {i : Int} (h : i.natAbs < 10 ^ 12) : i.natAbs.log2 < 1920 := by
  by_cases e : i.natAbs = 0
  · rw [e]
    decide
  · have h2 : i.natAbs < 2 ^ 1920 := Nat.lt_trans h (Nat.lt_of_lt_of_le (by decide : 10 ^ 12 < 2 ^ 40) (Nat.pow_le_pow_right (by decide) (by decide)))
    exact (Nat.log2_lt e).mpr h2
mutual
theorem fine_ok : ∀ d : PyData, fine d = true → d.leavesShort 13 = true ∧ d.showable = true
  | .none, _ => ⟨rfl, rfl⟩
  | .bool _, _ => ⟨rfl, rfl⟩
  | .int i, h => by
    have h1 : i.natAbs < 10 ^ 12 := by simpa only [fine, decide_eq_true_eq] using h
    exact ⟨by simp only [PyData.leavesShort, decide_eq_true_eq]; exact PyData.shown_int_le h1, by simp only [PyData.showable, decide_eq_true_eq]; exact log_fine h1⟩
  | .str x, h => by
    simp only [fine, Bool.and_eq_true] at h
    exact ⟨by simpa only [PyData.leavesShort] using h.2, rfl⟩
  | .list xs, h => by
    have h1 := fineAll_ok xs (by simpa only [fine] using h)
    exact ⟨by simpa only [PyData.leavesShort] using h1.1, by simpa only [PyData.showable] using h1.2⟩
  | .tuple xs, h => by
    have h1 := fineAll_ok xs (by simpa only [fine] using h)
    exact ⟨by simpa only [PyData.leavesShort] using h1.1, by simpa only [PyData.showable] using h1.2⟩
  | .dict _, h => by simp [fine] at h
theorem fineAll_ok : ∀ xs : List PyData, fineAll xs = true → PyData.leavesShortAll 13 xs = true ∧ PyData.showableAll xs = true
  | [], _ => ⟨rfl, rfl⟩
  | x :: xs, h => by
    simp only [fineAll, Bool.and_eq_true] at h
    have h1 := fine_ok x h.1
    have h2 := fineAll_ok xs h.2
    exact ⟨by simp only [PyData.leavesShortAll, h1.1, h2.1, Bool.and_self], by simp only [PyData.showableAll, h1.2, h2.2, Bool.and_self]⟩
end
mutual
theorem fine_lay : ∀ d : PyData, fine d = true → d.canLay0 = true
  | .none, _ => rfl
  | .bool _, _ => rfl
  | .int _, _ => rfl
  | .str x, h => by
    simp only [fine, Bool.and_eq_true] at h
    simpa only [PyData.canLay0] using h.1
  | .list xs, h => by simpa only [PyData.canLay0] using fineAll_lay xs (by simpa only [fine] using h)
  | .tuple xs, h => by simpa only [PyData.canLay0] using fineAll_lay xs (by simpa only [fine] using h)
  | .dict _, h => by simp [fine] at h
theorem fineAll_lay : ∀ xs : List PyData, fineAll xs = true → PyData.canLayAll0 xs = true
  | [], _ => rfl
  | x :: xs, h => by
    simp only [fineAll, Bool.and_eq_true] at h
    simp only [PyData.canLayAll0, fine_lay x h.1, fineAll_lay xs h.2, Bool.and_self]
end
def rReprF (K : PySem.W.Frag) : List V → Hp → VK → Prop := fun xs H Q => ∃ x d, xs = [x] ∧ Dp K H x d ∧ (fine d = true ∧ d.depth ≤ 60 ∧ d.bulk ≤ 2 ^ 20) ∧ Q (.str d.shown) H
theorem call_reprF {X : Cx} {k : Nat} (hr : Rm k X.A) : CallR X (.builtin "repr") (rReprF X.K) := by
  intro pins s σ H xs us Q I r h
  obtain ⟨x, d, e, hd, ⟨h1, h2, h3⟩, q⟩ := h
  have h4 := fine_ok d h1
  exact call_repr hr pins s σ H xs us Q I r ⟨x, d, e, hd, h4.2, h2, PyData.shown_fits_bulk (B := 13) (by decide) (by decide) h4.1 h3, q⟩
theorem dpAll_ints {K : PySem.W.Frag} {H : Hp} : ∀ ns : List Int, DpAll K H (ns.map V.int) (ns.map PyData.int)
  | [] => .nil
  | n :: ns => .cons (.int n) (dpAll_ints ns)
theorem dp_ints {K : PySem.W.Frag} {H : Hp} {a : Addr} {ns : List Int} (h : H a = some (.lst (ns.map V.int))) : Dp K H (.ref a) (.list (ns.map .int)) := .lst (SqL.of h) (dpAll_ints ns)
theorem fineAll_ints : ∀ {ns : List Int}, (∀ n ∈ ns, n.natAbs < 10 ^ 12) → fineAll (ns.map .int) = true
  | [], _ => rfl
  | n :: ns, h => by
    simp only [List.map_cons, fineAll, fine, Bool.and_eq_true, decide_eq_true_eq]
    exact ⟨h n List.mem_cons_self, fineAll_ints fun m hm => h m (List.mem_cons_of_mem _ hm)⟩
theorem depthAll_ints : ∀ ns : List Int, PyData.depthAll (ns.map .int) = 0
  | [] => rfl
  | n :: ns => by simp only [List.map_cons, PyData.depthAll, PyData.depth, depthAll_ints ns, Nat.max_self]
theorem bulkAll_ints : ∀ ns : List Int, PyData.bulkAll (ns.map .int) = ns.length
  | [] => rfl
  | n :: ns => by
    have := bulkAll_ints ns
    simp only [List.map_cons, PyData.bulkAll, PyData.bulk, List.length_cons]
    omega
theorem fine_ints {ns : List Int} (h : ∀ n ∈ ns, n.natAbs < 10 ^ 12) (l : ns.length ≤ 500000) : fine (.list (ns.map .int)) = true ∧ (PyData.list (ns.map .int)).depth ≤ 60 ∧ (PyData.list (ns.map .int)).bulk ≤ 2 ^ 20 := by
  have h1 := bulkAll_ints ns
  refine ⟨by simpa only [fine] using fineAll_ints h, ?_, ?_⟩
  · simp only [PyData.depth, depthAll_ints]
    decide
  · simp only [PyData.bulk]
    have : (2 : Nat) ^ 20 = 1048576 := by decide
    omega
theorem canLay_ints : ∀ ns : List Int, PyData.canLayAll0 (ns.map .int) = true
  | [] => rfl
  | n :: ns => by simp only [List.map_cons, PyData.canLayAll0, PyData.canLay0, canLay_ints ns, Bool.and_self]
theorem shaped_of {d : PyData} (h : d.canLay0 = true) (k : d.depth ≤ 60) : SeqAt.shaped d = true := by
  unfold SeqAt.shaped
  rw [h, Bool.true_and]
  exact decide_eq_true (Nat.le_trans k (by decide))
theorem shaped_ints (ns : List Int) : SeqAt.shaped (.list (ns.map .int)) = true :=
  shaped_of (by simpa only [PyData.canLay0] using canLay_ints ns) (by simp only [PyData.depth, depthAll_ints]; decide)
theorem eqv_self {d : PyData} (h : SeqAt.shaped d = true) : PyData.eqv d d = true := SeqAt.eqv_refl d (SeqAt.canLay_of_shaped h)
end G
namespace G
open PySem PySem.Spec PyProof.Rows L2
theorem intAt_mk {K : PySem.W.Frag} {mg : Str → Option Value} {h : Heap} {x : Str} {i : Int} {t : Tok} (X : K.In h) (g : h.Ns mainGlobals mg) (a : PySem.W.nsIn K mainGlobals x = some (some (.int i t))) : ∃ t, mg x = some (.int i t) := ⟨t, PySem.W.mg_of X g a⟩
theorem strAt_mk {K : PySem.W.Frag} {mg : Str → Option Value} {h : Heap} {x : Str} {i : Str} {t : Tok} (X : K.In h) (g : h.Ns mainGlobals mg) (a : PySem.W.nsIn K mainGlobals x = some (some (.str i t))) : ∃ t, mg x = some (.str i t) := ⟨t, PySem.W.mg_of X g a⟩
end G
namespace G
open PySem PySem.Spec PyProof.Rows L2
/-! ### a comprehension over anything that gives f 0, f 1, .. and leaves the heap: the list of what is made -/
theorem lc_map {J : It} {n : Nat} {Gs : Hp → Prop} {Y : Nat → Hp → V → Hp → Prop} (w : Walk J n Gs Y) {g : TG} {te : TE} {vs : List Nat} {σ : L2.St} {H1 : Hp} {D : Addr} {Qd : Hp → Prop} (ys : List V) (hn : ys.length = n) (hz : n ≤ sizeLine)
    (hG : ∀ zs, Gs (upd H1 D (.lst zs)))
    (hs : ∀ i x H H' (R : V → Hp → Prop), i < n → H = upd H1 D (.lst (ys.take i)) → Y i H x H' → (∀ y, ys[i]? = some y → R y H) → g x (wipe σ vs) H' fun σ2 H2 => wipe σ2 vs = wipe σ vs ∧ te σ2 H2 R) (hd : Qd (upd H1 D (.lst ys))) :
    ∃ W : Nat → Nat → Hp → Prop, (∃ m, W 0 m (upd H1 D (.lst []))) ∧ ∀ i m H, W i m H →
      (J.stop i H ∧ Qd H) ∨ (J.go i H ∧ ∃ Nx : Hp → Prop, (∀ H', Nx H' → ∃ m', m' < m ∧ W (i + 1) m' H') ∧ ∀ x H', J.yld i H x H' → g x (wipe σ vs) H' fun σ2 H2 => wipe σ2 vs = wipe σ vs ∧ tYes σ2 H2 fun b H3 =>
        if b = true then te σ2 H3 fun y H4 => ∃ acc, H4 D = some (.lst acc) ∧ acc.length < sizeLine ∧ Nx (upd H4 D (.lst (acc ++ [y]))) else Nx H3) := by
  refine lc_it w (fun i H => H = upd H1 D (.lst (ys.take i))) (by simp) (fun i H _ e => by rw [e]; exact hG _) (fun i x H H' hi e y => ?_) (fun H e => by rw [e, ← hn, List.take_length]; exact hd)
  simp only [tYes, ↓reduceIte]
  refine hs i x H H' _ hi e y fun v z4 => ?_
  have hl : (ys.take i).length = i := by rw [List.length_take]; omega
  refine ⟨_, by rw [e]; exact upd_same, by rw [hl]; omega, ?_⟩
  rw [e, upd_upd, List.take_succ, z4]
  rfl

/-! ### rows of words -/
def KN : List Str := ["end", "load", "store", "add", "less", "take", "from", "into", "go", "zero", "small", "read", "write", "other", "great", "still"]
/-- the row of a word -/
def rowT (i : Int) : Str := ((Str.empty ++ KN.getD (i / 4096).toNat Str.empty) ++ " ") ++ (toString (i % 4096) : String)
def isDig (c : Nat) : Bool := decide (48 ≤ c) && decide (c ≤ 57)
/-- the number that a text writes in so many figures at most -/
def figsIn (x : Str) (m : Int) : Option Int :=
  if decide (1 ≤ (x.length : Int)) && decide ((x.length : Int) ≤ m) && x.cps.toList.all isDig then
    (if x.cps.toList.head? = some 48 ∧ x ≠ "0" then none else some ((NumText.digitsVal x.cps.toList : Nat) : Int))
  else none
def optV : Option Int → V
  | none => .non
  | some i => .int i
def knIdx (x : Str) : Nat := KN.findIdx (· == x)
/-- the word that a row tells -/
def rowIn (x : Str) : Option Int :=
  match figsIn (Txt.partition x " ").2.2 4 with
  | none => none
  | some n => if (Txt.partition x " ").1 ∈ KN ∧ (Txt.partition x " ").2.1 ≠ "" ∧ n ≤ 4095 then some ((knIdx (Txt.partition x " ").1 : Int) * 4096 + n) else none
def wordInV : V → Option Int
  | .str x => rowIn x
  | _ => none
theorem digs_eq : ("0123456789" : Str).cps.toList = [48, 49, 50, 51, 52, 53, 54, 55, 56, 57] := by decide +kernel
theorem isDig_mem (c : Nat) : decide (c ∈ ("0123456789" : Str).cps.toList) = isDig c := by
  rw [digs_eq]
  unfold isDig
  by_cases h : 48 ≤ c ∧ c ≤ 57
  · rw [decide_eq_true h.1, decide_eq_true h.2]
    have : c = 48 ∨ c = 49 ∨ c = 50 ∨ c = 51 ∨ c = 52 ∨ c = 53 ∨ c = 54 ∨ c = 55 ∨ c = 56 ∨ c = 57 := by omega
    rcases this with rfl | rfl | rfl | rfl | rfl | rfl | rfl | rfl | rfl | rfl <;> rfl
  · have e : (decide (48 ≤ c) && decide (c ≤ 57)) = false := by
      rw [← Bool.not_eq_true]
      intro z
      simp only [Bool.and_eq_true, decide_eq_true_eq] at z
      exact h z
    rw [e]
    refine decide_eq_false fun hm => ?_
    simp only [List.mem_cons, List.not_mem_nil, or_false] at hm
    omega
theorem eqV_str (x y : Str) : eqV (.str x) (.str y) = (x == y) := rfl
theorem inV_strs (x : Str) : ∀ ys : List Str, inV (.str x) (ys.map V.str) = decide (x ∈ ys)
  | [] => by simp [inV]
  | y :: ys => by
    have ih := inV_strs x ys
    unfold inV at ih ⊢
    rw [List.map_cons, List.any_cons, ih, eqV_str]
    by_cases e : y = x
    · simp [e]
    · have e2 : ¬ x = y := fun z => e z.symm
      simp [e, e2]
theorem flat_strs : ∀ ys : List Str, (ys.map V.str).all flatV = true
  | [] => rfl
  | _ :: ys => by
    rw [List.map_cons, List.all_cons, flat_strs ys]
    rfl
theorem kn_nodup : KN.Nodup := by decide +kernel
theorem knIdx_get {x : Str} (h : x ∈ KN) : KN[knIdx x]? = some x := by
  have h1 : knIdx x < KN.length := List.findIdx_lt_length_of_exists ⟨x, h, by simp⟩
  have h2 := List.findIdx_getElem (w := h1)
  rw [List.getElem?_eq_getElem h1]
  exact congrArg some (by unfold knIdx; simpa using h2)
theorem knIdx_first {x : Str} {m : Nat} (h : m < knIdx x) : KN[m]? ≠ some x := by
  intro e
  have h2 := List.not_of_lt_findIdx h
  have h3 := (List.getElem?_eq_some_iff.mp e).2
  simp [h3] at h2
end G
namespace G
open PySem PySem.Spec PyProof.Rows L2 TL
theorem tl_blank : tl (" " : Str) = 32 :: [] := by decide +kernel
theorem part_cases (x : Str) : (32 ∉ tl x ∧ Txt.partition x " " = (x, Str.empty, Str.empty)) ∨ ∃ a b : Str, x = a ++ " " ++ b ∧ 32 ∉ tl a ∧ Txt.partition x " " = (a, (" " : Str), b) := by
  by_cases h : 32 ∈ tl x
  · obtain ⟨l, r, e, hl⟩ := List.eq_append_cons_of_mem h
    refine .inr ⟨⟨l.toArray⟩, ⟨r.toArray⟩, ?_, ?_, ?_⟩
    · refine ext_tl ?_
      rw [tl_append, tl_append, tl_blank, e]
      show l ++ 32 :: r = (l ++ [32]) ++ r
      simp
    · exact hl
    · have e2 : x = (⟨l.toArray⟩ : Str) ++ " " ++ (⟨r.toArray⟩ : Str) := by
        refine ext_tl ?_
        rw [tl_append, tl_append, tl_blank, e]
        show l ++ 32 :: r = (l ++ [32]) ++ r
        simp
      rw [e2]
      exact partition_app tl_blank hl
  · exact .inl ⟨h, partition_none tl_blank h⟩
theorem part_len (x : Str) : (Txt.partition x " ").2.2.length ≤ x.length := by
  rcases part_cases x with ⟨_, e⟩ | ⟨a, b, ex, _, e⟩
  · rw [e]
    exact Nat.zero_le _
  · rw [e, ex, Str.length_append, Str.length_append]
    show b.length ≤ _
    omega
theorem numL_head : ∀ (k n : Nat), n ≤ k → 0 < n → ∃ c r, numL n = c :: r ∧ 49 ≤ c
  | 0, n, h, h0 => by omega
  | k + 1, n, h, h0 => by
    by_cases h10 : n < 10
    · exact ⟨_, _, numL_lt h10, by omega⟩
    · obtain ⟨c, r, e, hc⟩ := numL_head k (n / 10) (by omega) (by omega)
      exact ⟨c, r ++ [48 + n % 10], by rw [numL_step (by omega), e]; rfl, hc⟩
theorem isDig_of {l : List Nat} (h : NumText.AllDigits l) : l.all isDig = true := by
  refine List.all_eq_true.mpr fun c hc => ?_
  have h2 := h c hc
  simp only [isDig, Bool.and_eq_true, decide_eq_true_eq]
  exact h2
theorem tl_zero : tl ("0" : Str) = [48] := by decide +kernel
/-- figures as str writes them -/
theorem figs_num {n m : Nat} (hl : (numL n).length ≤ m) : figsIn (Str.ofString (toString (n : Int))) (m : Int) = some (n : Int) := by
  have e := tl_num n
  have hlen : (Str.ofString (toString (n : Int))).length = (numL n).length := by rw [len_tl, e]
  have hpos : 1 ≤ (numL n).length := List.length_pos_iff.mpr (numL_ne n)
  have ec : (Str.ofString (toString (n : Int))).cps.toList = numL n := e
  unfold figsIn
  rw [hlen, ec, isDig_of (numL_digits n), decide_eq_true (show (1 : Int) ≤ ((numL n).length : Nat) by omega), decide_eq_true (show (((numL n).length : Nat) : Int) ≤ (m : Nat) by omega)]
  simp only [Bool.and_self, ↓reduceIte]
  rw [if_neg, numL_val]
  rintro ⟨h1, h2⟩
  by_cases h0 : n = 0
  · subst h0
    exact h2 (by decide +kernel)
  · obtain ⟨c, r, e2, hc⟩ := numL_head n n (Nat.le_refl _) (by omega)
    rw [e2] at h1
    have := Option.some.inj h1
    omega
/-- the row of a word, read -/
theorem kn_free : ∀ k < 16, 32 ∉ tl (KN.getD k Str.empty) := by decide +kernel
theorem kn_idx : ∀ k < 16, KN.getD k Str.empty ∈ KN ∧ knIdx (KN.getD k Str.empty) = k := by decide +kernel
theorem empty_app (x : Str) : Str.empty ++ x = x := by
  refine ext_tl ?_
  rw [tl_append]
  rfl
theorem rowIn_parts {k n : Nat} (hk : k < 16) (hn : n ≤ 4095) : rowIn (KN.getD k Str.empty ++ " " ++ Str.ofString (toString (n : Int))) = some ((k : Int) * 4096 + n) := by
  unfold rowIn
  rw [partition_app tl_blank (kn_free k hk)]
  have h4 : (numL n).length ≤ 4 := numL_len (by decide) (by omega)
  have h5 := figs_num (m := 4) h4
  simp only
  rw [show ((4 : Nat) : Int) = 4 from rfl] at h5
  rw [h5]
  simp only
  rw [if_pos ⟨(kn_idx k hk).1, by decide +kernel, by omega⟩, (kn_idx k hk).2]
theorem rowT_eq {i : Int} (h0 : 0 ≤ i) (h1 : i ≤ 65535) : rowT i = KN.getD (i / 4096).toNat Str.empty ++ " " ++ Str.ofString (toString (((i % 4096).toNat : Nat) : Int)) := by
  unfold rowT
  rw [empty_app, Int.toNat_of_nonneg (Int.emod_nonneg _ (by decide))]
theorem rowIn_rowT {i : Int} (h0 : 0 ≤ i) (h1 : i ≤ 65535) : rowIn (rowT i) = some i := by
  rw [rowT_eq h0 h1, rowIn_parts (by omega) (by omega)]
  congr 1
  omega
theorem rowT_len {i : Int} (h0 : 0 ≤ i) (h1 : i ≤ 65535) : (rowT i).length ≤ 12 := by
  rw [rowT_eq h0 h1, Str.length_append, Str.length_append]
  have e2 : ∀ n : Nat, n < 16 → (KN.getD n Str.empty).length ≤ 5 := by decide +kernel
  have e3 := e2 (i / 4096).toNat (by omega)
  have e4 : (Str.ofString (toString (((i % 4096).toNat : Nat) : Int))).length ≤ 4 := by
    rw [len_tl, tl_num]
    exact numL_len (by decide) (by omega)
  have l1 : (" " : Str).length = 1 := rfl
  omega
end G
/-! ### the heap, looked up -/
local macro_rules | `(tactic| walk_at "hp") => `(tactic| first
  | assumption
  | exact L2.upd_same
  | (refine G.upd_old ?_ ?_ <;> first | assumption | walk_at "hp")
  | (refine G.upd_oth ?_ ?_ <;> first | assumption | (apply Ne.symm; assumption) | walk_at "hp"))
/-! ### the reading, step by step -/
local macro_rules | `(tactic| walk_at "rd1") => `(tactic| first
  | refine ⟨_, rfl, ?_⟩
  | refine ⟨_, _, rfl, rfl, ?_⟩
  | refine ⟨_, _, rfl, ?_⟩
  | refine ⟨by decide, ?_⟩
  | refine ⟨⟨by decide, by decide⟩, ?_⟩
  | refine ⟨⟨by decide, by decide, by decide⟩, ?_⟩
  | refine ⟨.inr ⟨by decide, by decide⟩, ?_⟩
  | refine ⟨.inl ⟨by decide, by decide⟩, ?_⟩)
local macro_rules | `(tactic| walk_at "rd") => `(tactic| repeat walk_at "rd1")
namespace G
open PySem PySem.Spec PyProof.Rows L2
/-! ### the text by places -/
def top (i : Nat) : Stmt := PySem.Challenge.pw_seedmill_k03_rows_told.main.body.getD i (.Pass ⟨0, 0, 0, 0⟩)
abbrev s__law_pen_of : Stmt := top 26
abbrev s__law_cell_at : Stmt := top 24
abbrev s__law_names : Stmt := top 28
abbrev s__law_next : Stmt := top 25
abbrev s__law_draw : Stmt := top 27
abbrev s__law_figures : Stmt := top 29
abbrev s_is_whole : Stmt := top 11
abbrev s_is_between : Stmt := top 12
abbrev s_is_word : Stmt := top 13
abbrev s_need_word : Stmt := top 14
abbrev s_address_by : Stmt := top 16
abbrev s_kind_by : Stmt := top 15
abbrev s_row_by : Stmt := top 18
abbrev s_row_of : Stmt := top 19
abbrev s_figures_in : Stmt := top 20
abbrev s_word_by : Stmt := top 17
abbrev s_row_in : Stmt := top 21
abbrev s_word_in : Stmt := top 22
abbrev s_law : Stmt := top 30
structure Top (K : PySem.W.Frag) (mg : Str → Option Value) : Prop where
  d__law_pen_of : TopDef K mg "_law_pen_of" s__law_pen_of ["_law_cell"]
  d__law_cell_at : TopDef K mg "_law_cell_at" s__law_cell_at ["_law_script", "_law_k"]
  d__law_names : TopDef K mg "_law_names" s__law_names []
  d__law_next : TopDef K mg "_law_next" s__law_next ["_law_root"]
  d__law_draw : TopDef K mg "_law_draw" s__law_draw ["_law_pen", "_law_many"]
  d__law_figures : TopDef K mg "_law_figures" s__law_figures ["_law_number"]
  d_is_whole : TopDef K mg "is_whole" s_is_whole ["thing"]
  d_is_between : TopDef K mg "is_between" s_is_between ["thing", "low", "high"]
  d_is_word : TopDef K mg "is_word" s_is_word ["thing"]
  d_need_word : TopDef K mg "need_word" s_need_word ["thing"]
  d_address_by : TopDef K mg "address_by" s_address_by ["word"]
  d_kind_by : TopDef K mg "kind_by" s_kind_by ["word"]
  d_row_by : TopDef K mg "row_by" s_row_by ["word"]
  d_row_of : TopDef K mg "row_of" s_row_of ["word"]
  d_figures_in : TopDef K mg "figures_in" s_figures_in ["text", "most"]
  d_word_by : TopDef K mg "word_by" s_word_by ["kind", "address"]
  d_row_in : TopDef K mg "row_in" s_row_in ["text"]
  d_word_in : TopDef K mg "word_in" s_word_in ["row"]
  d_law : TopDef K mg "law" s_law ["_law_script"]
  b_all : mg "all" = none
  b_bool : mg "bool" = none
  b_enumerate : mg "enumerate" = none
  b_int : mg "int" = none
  b_isinstance : mg "isinstance" = none
  b_len : mg "len" = none
  b_max : mg "max" = none
  b_range : mg "range" = none
  b_repr : mg "repr" = none
  b_str : mg "str" = none
  c_FIGURES : ∃ t, mg "FIGURES" = some (.str "0123456789" t)
  c_KINDS : ∃ a, mg "KINDS" = some (.ref a) ∧ SqTK K a [V.str "end", V.str "load", V.str "store", V.str "add", V.str "less", V.str "take", V.str "from", V.str "into", V.str "go", V.str "zero", V.str "small", V.str "read", V.str "write", V.str "other", V.str "great", V.str "still"]
  c_MOST_ADDRESS : ∃ t, mg "MOST_ADDRESS" = some (.int 4095 t)
  c_MOST_FIGURES : ∃ t, mg "MOST_FIGURES" = some (.int 4 t)
  c_MOST_WORD : ∃ t, mg "MOST_WORD" = some (.int 65535 t)
  c_SPAN : ∃ t, mg "SPAN" = some (.int 4096 t)
  k_NoRow : ExcAt K mg "NoRow"
  k_NoWord : ExcAt K mg "NoWord"
section
variable {P : Program} {w : World} {K : PySem.W.Frag} {mg : Str → Option Value} {base : Heap}
/-! ### _law_pen_of -/
abbrev N__law_pen_of : List Str := ["_law_cell", "_law_left"]
theorem sc__law_pen_of : FnScope N__law_pen_of ["_law_cell"] (defScope s__law_pen_of) := ⟨rfl, rfl, rfl, by decide +kernel, rfl, by decide +kernel, by decide +kernel⟩
def S__law_pen_of (K : PySem.W.Frag) (mg : Str → Option Value) : Sp := sp1 fun a H Q _ => ∃ i : Int, a = .int i ∧ ∀ (p : Addr) (x y z : Int), H p = none → Q (.ref p) (upd H p (.lst [.int x, .int y, .int z]))
theorem fn__law_pen_of (T : Top K mg) {f : Addr} {fd : FuncData} (D : DefAt K mg "_law_pen_of" s__law_pen_of ["_law_cell"] f fd) : FnG P w K mg base 1 f fd ["_law_cell"] (S__law_pen_of K mg) := by
  refine fn_of_body D.fn sc__law_pen_of (fun vs H Q E h => by obtain ⟨_, rfl, _⟩ := h; rfl) (fun cdv A outer s H vs Q E hr h => ?_)
  obtain ⟨a, rfl, h⟩ := h
  have nd : N__law_pen_of.Nodup := sc__law_pen_of.nd
  refine ⟨_, pss_cons (ps_set (i := 1) nd rfl (Or.inl rfl) (pe_callB (call_max2 rfl) (by rfl) T.b_max (by decide +kernel) (pa_cons (pv 0) (pa_cons (pe_op (op_sub) (pe_int) (pv 0)) (pa_nil)))))
  (pss_one (ps_ret (pe_lst (pa_cons (pv 1) (pa_cons (pe_callTy (call_int1) (by rfl) T.b_int (by decide +kernel) (pa_cons (pe_cmpR (op_ge) (pv 1) (pe_op (op_pow) (pe_int) (pe_int)) (nomark _)) (pa_nil))) (pa_cons (pe_op (op_mod) (pv 1) (pe_int)) (pa_nil))))))), ?_⟩
  obtain ⟨i, rfl, q⟩ := h
  refine ⟨_, rfl, _, rfl, _, _, rfl, rfl, _, _, rfl, ?_⟩
  refine ⟨_, rfl, _, rfl, _, _, rfl, rfl, ⟨by decide, by decide, by decide⟩, _, _, rfl, rfl, .inr ⟨_, rfl, _, rfl, _, _, rfl, rfl, (by show (0 : Int) < 1000003; decide), (by show 3 ≤ sizeLine; decide), fun p hp => q p _ _ _ hp⟩⟩
theorem cal__law_pen_of (T : Top K mg) : Cal P w K mg base 1 "_law_pen_of" [] (S__law_pen_of K mg) := by
  obtain ⟨f, fd, D⟩ := T.d__law_pen_of
  exact cal_mk D (fn__law_pen_of T D)
/-! ### _law_cell_at -/
abbrev N__law_cell_at : List Str := ["_law_script", "_law_k"]
theorem sc__law_cell_at : FnScope N__law_cell_at ["_law_script", "_law_k"] (defScope s__law_cell_at) := ⟨rfl, rfl, rfl, by decide +kernel, rfl, by decide +kernel, by decide +kernel⟩
def S__law_cell_at (K : PySem.W.Frag) (mg : Str → Option Value) : Sp := sp2 fun a b H Q _ => ∃ (p : Addr) (ns : List Int) (k : Int), a = .ref p ∧ b = .int k ∧ SqL K H p (ns.map V.int) ∧ 0 ≤ k ∧ ∀ z, Q (.int z) H
theorem fn__law_cell_at (T : Top K mg) {f : Addr} {fd : FuncData} (D : DefAt K mg "_law_cell_at" s__law_cell_at ["_law_script", "_law_k"] f fd) : FnG P w K mg base 1 f fd ["_law_script", "_law_k"] (S__law_cell_at K mg) := by
  refine fn_of_body D.fn sc__law_cell_at (fun vs H Q E h => by obtain ⟨_, _, rfl, _⟩ := h; rfl) (fun cdv A outer s H vs Q E hr h => ?_)
  obtain ⟨a, b, rfl, h⟩ := h
  have nd : N__law_cell_at.Nodup := sc__law_cell_at.nd
  refine ⟨_, pss_cons (ps_if (pt_cmpR (op_lt) (pv 1) (pe_callB (call_len_seq) (by rfl) T.b_len (by decide +kernel) (pa_cons (pv 0) (pa_nil))) (nomark _)) (pss_one (ps_ret (pe_ix (ix_list) (pv 0) (pv 1) (fun _ _ => rfl)))) (pss_nil))
  (pss_one (ps_ret (pe_int))), ?_⟩
  obtain ⟨p, ns, k, rfl, rfl, hs, h0, q⟩ := h
  refine ⟨_, rfl, _, rfl, p, _, rfl, .inl hs, _, _, rfl, rfl, _, rfl, ?_⟩
  refine ite2 (fun e => ?_) (fun e => q _)
  have e1 : k < ((ns.map V.int).length : Int) := of_decide_eq_true e
  rw [List.length_map] at e1
  have e2 : (ns.map V.int)[k.toNat]? = some (V.int (ns[k.toNat]'(by omega))) := by
    rw [List.getElem?_map, List.getElem?_eq_getElem (by omega)]
    rfl
  exact ⟨_, rfl, _, rfl, p, _, _, _, rfl, rfl, hs, atI_int h0 e2, q _⟩
theorem cal__law_cell_at (T : Top K mg) : Cal P w K mg base 1 "_law_cell_at" [] (S__law_cell_at K mg) := by
  obtain ⟨f, fd, D⟩ := T.d__law_cell_at
  exact cal_mk D (fn__law_cell_at T D)
/-! ### _law_names -/
abbrev N__law_names : List Str := ["_law_some"]
theorem sc__law_names : FnScope N__law_names [] (defScope s__law_names) := ⟨rfl, rfl, rfl, by decide +kernel, rfl, by decide +kernel, by decide +kernel⟩
def S__law_names (K : PySem.W.Frag) (mg : Str → Option Value) : Sp := sp0 fun H Q _ => ∀ H' p, Same H H' → H p = none → H' p = some (.lst (KN.map V.str)) → Q (.ref p) H'
theorem fn__law_names (T : Top K mg) {f : Addr} {fd : FuncData} (D : DefAt K mg "_law_names" s__law_names [] f fd) : FnG P w K mg base 1 f fd [] (S__law_names K mg) := by
  refine fn_of_body D.fn sc__law_names (fun vs H Q E h => by obtain ⟨rfl, _⟩ := h; rfl) (fun cdv A outer s H vs Q E hr h => ?_)
  obtain ⟨rfl, h⟩ := h
  have nd : N__law_names.Nodup := sc__law_names.nd
  refine ⟨_, pss_cons (ps_set (i := 0) nd rfl (Or.inl rfl) (pe_lst (pa_cons (pe_str) (pa_cons (pe_str) (pa_cons (pe_str) (pa_cons (pe_str) (pa_cons (pe_str) (pa_cons (pe_str) (pa_cons (pe_str) (pa_cons (pe_str) (pa_cons (pe_str) (pa_cons (pe_str) (pa_cons (pe_str) (pa_cons (pe_str) (pa_cons (pe_str) (pa_nil))))))))))))))))
  (pss_one (ps_ret (pe_op (op_cat) (pv 0) (pe_lst (pa_cons (pe_str) (pa_cons (pe_str) (pa_cons (pe_str) (pa_nil)))))))), ?_⟩
  refine ⟨by show 13 ≤ sizeLine; decide, fun l1 n1 => ⟨_, rfl, by show 3 ≤ sizeLine; decide, fun l2 n2 => ?_⟩⟩
  refine ⟨l1, l2, _, _, rfl, rfl, by walk_at "hp", upd_same, by show 16 ≤ sizeLine; decide, fun l n3 => ?_⟩
  have f1 : H l = none := by
    exact Same.free (fun b o e => upd_old (upd_old e n1) n2) n3
  exact h _ l (fun b o e => upd_old (upd_old (upd_old e n1) n2) n3) f1 upd_same
theorem cal__law_names (T : Top K mg) : Cal P w K mg base 1 "_law_names" [] (S__law_names K mg) := by
  obtain ⟨f, fd, D⟩ := T.d__law_names
  exact cal_mk D (fn__law_names T D)
/-! ### _law_next -/
abbrev N__law_next : List Str := ["_law_root"]
theorem sc__law_next : FnScope N__law_next ["_law_root"] (defScope s__law_next) := ⟨rfl, rfl, rfl, by decide +kernel, rfl, by decide +kernel, by decide +kernel⟩
def S__law_next (K : PySem.W.Frag) (mg : Str → Option Value) : Sp := sp1 fun a H Q _ => ∃ i : Int, a = .int i ∧ ∀ z : Int, 0 ≤ z → z < 2147483629 → Q (.int z) H
theorem fn__law_next (T : Top K mg) {f : Addr} {fd : FuncData} (D : DefAt K mg "_law_next" s__law_next ["_law_root"] f fd) : FnG P w K mg base 1 f fd ["_law_root"] (S__law_next K mg) := by
  refine fn_of_body D.fn sc__law_next (fun vs H Q E h => by obtain ⟨_, rfl, _⟩ := h; rfl) (fun cdv A outer s H vs Q E hr h => ?_)
  obtain ⟨a, rfl, h⟩ := h
  have nd : N__law_next.Nodup := sc__law_next.nd
  refine ⟨_, pss_cons (ps_set (i := 0) nd rfl (Or.inl rfl) (pe_op (op_mod) (pe_op (op_add) (pv 0) (pe_int)) (pe_int)))
  (pss_one (ps_ret (pe_op (op_mod) (pe_op (op_add) (pe_op (op_add) (pe_op (op_mul) (pv 0) (pv 0)) (pe_op (op_mul) (pe_int) (pv 0))) (pe_int)) (pe_int)))), ?_⟩
  obtain ⟨i, rfl, q⟩ := h
  have h1 : 0 ≤ (i + 7919) % 2147483647 := Int.emod_nonneg _ (by decide)
  have h2 : (i + 7919) % 2147483647 < 2147483647 := Int.emod_lt_of_pos _ (by decide)
  refine ⟨_, rfl, _, _, rfl, rfl, _, _, rfl, rfl, (by show (0 : Int) < 2147483647; decide), ?_⟩
  refine ⟨_, rfl, _, rfl, _, _, rfl, rfl, .inl ⟨by omega, by omega⟩, _, rfl, _, _, rfl, rfl, .inl ⟨by decide, by decide⟩, _, _, rfl, rfl, _, _, rfl, rfl, _, _, rfl, rfl, (by show (0 : Int) < 2147483629; decide), ?_⟩
  exact q _ (Int.emod_nonneg _ (by decide)) (Int.emod_lt_of_pos _ (by decide))
theorem cal__law_next (T : Top K mg) : Cal P w K mg base 1 "_law_next" [] (S__law_next K mg) := by
  obtain ⟨f, fd, D⟩ := T.d__law_next
  exact cal_mk D (fn__law_next T D)
/-! ### _law_draw -/
abbrev N__law_draw : List Str := ["_law_pen", "_law_many", "_law_found"]
theorem sc__law_draw : FnScope N__law_draw ["_law_pen", "_law_many"] (defScope s__law_draw) := ⟨rfl, rfl, rfl, by decide +kernel, rfl, by decide +kernel, by decide +kernel⟩
def S__law_draw (K : PySem.W.Frag) (mg : Str → Option Value) : Sp := sp2 fun a b H Q _ => ∃ (p : Addr) (x y z n : Int), a = .ref p ∧ b = .int n ∧ H p = some (.lst [.int x, .int y, .int z]) ∧ 0 < n ∧ n < 1073741824 ∧ ∀ x' y' z' r : Int, 0 ≤ r → r < n → Q (.int r) (upd H p (.lst [.int x', .int y', .int z']))
theorem fn__law_draw (T : Top K mg) {f : Addr} {fd : FuncData} (D : DefAt K mg "_law_draw" s__law_draw ["_law_pen", "_law_many"] f fd) : FnG P w K mg base 2 f fd ["_law_pen", "_law_many"] (S__law_draw K mg) := by
  refine fn_of_body D.fn sc__law_draw (fun vs H Q E h => by obtain ⟨_, _, rfl, _⟩ := h; rfl) (fun cdv A outer s H vs Q E hr h => ?_)
  obtain ⟨a, b, rfl, h⟩ := h
  have nd : N__law_draw.Nodup := sc__law_draw.nd
  refine ⟨_, pss_cons (ps_if (PW.pt (pw_and (pt_cmpR (op_eq) (pe_ix (ix_list) (pv 0) (pe_int) (fun _ _ => rfl)) (pe_int) (nomark _)) (pw_and1 (pt_cmpR (op_gt) (pe_ix (ix_list) (pv 0) (pe_int) (fun _ _ => rfl)) (pe_int) (nomark _))))) (pss_cons (ps_set (i := 2) nd rfl (Or.inl rfl) (pe_op (op_mod) (pe_ix (ix_list) (pv 0) (pe_int) (fun _ _ => rfl)) (pv 1)))
  (pss_cons (ps_asg (pe_op (op_fdiv) (pe_ix (ix_list) (pv 0) (pe_int) (fun _ _ => rfl)) (pv 1)) (pg_sub (pv 0) (pe_int) (set_list)))
  (pss_one (ps_ret (pv 2))))) (pss_nil))
  (pss_cons (ps_asg (pe_c (cal__law_next T) hr pass (pa_cons (pe_op (op_add) (pe_c (cal__law_next T) hr pass (pa_cons (pe_ix (ix_list) (pv 0) (pe_int) (fun _ _ => rfl)) (pa_nil))) (pe_int)) (pa_nil))) (pg_sub (pv 0) (pe_int) (set_list)))
  (pss_one (ps_ret (pe_op (op_mod) (pe_op (op_fdiv) (pe_ix (ix_list) (pv 0) (pe_int) (fun _ _ => rfl)) (pe_int)) (pv 1))))), ?_⟩
  obtain ⟨p, x, y, z, n, rfl, rfl, hp, n0, n1, q⟩ := h
  have sq : SqL K H p [.int x, .int y, .int z] := SqL.of hp
  refine ⟨_, rfl, p, _, _, _, rfl, rfl, sq, rfl, rfl, _, rfl, ?_⟩
  refine ite2 (fun e => ⟨_, rfl, p, _, _, _, rfl, rfl, sq, rfl, _, _, rfl, rfl, _, rfl, ?_⟩) (fun e => iteF ?_)
  refine ite2 (fun e => ?_) (fun e => ?_)
  · refine ⟨_, rfl, p, _, _, _, rfl, rfl, sq, rfl, _, rfl, _, _, rfl, rfl, n0, ?_⟩
    refine ⟨_, rfl, p, _, _, _, rfl, rfl, sq, rfl, _, rfl, _, _, rfl, rfl, ⟨n0, n1⟩, _, rfl, p, _, _, _, rfl, rfl, hp, rfl, _, rfl, ?_⟩
    exact q _ _ _ _ (Int.emod_nonneg _ (by omega)) (Int.emod_lt_of_pos _ n0)
  all_goals
    refine ⟨_, rfl, p, _, _, _, rfl, rfl, sq, rfl, ⟨_, rfl, _, rfl, fun z1 _ _ => ⟨_, _, rfl, rfl, ⟨_, rfl, _, rfl, fun z2 _ _ => ⟨_, rfl, p, _, _, _, rfl, rfl, hp, rfl, ?_⟩⟩⟩⟩⟩
    refine ⟨_, rfl, p, _, _, _, rfl, rfl, SqL.of upd_same, rfl, _, _, rfl, rfl, ⟨by decide, by decide⟩, _, rfl, _, _, rfl, rfl, n0, ?_⟩
    exact q _ _ _ _ (Int.emod_nonneg _ (by omega)) (Int.emod_lt_of_pos _ n0)
theorem cal__law_draw (T : Top K mg) : Cal P w K mg base 2 "_law_draw" [] (S__law_draw K mg) := by
  obtain ⟨f, fd, D⟩ := T.d__law_draw
  exact cal_mk D (fn__law_draw T D)
/-! ### _law_figures -/
/-- one turn of the figures: the number, the signs so far -/
def figStep (p : Nat × List Nat) : Nat × List Nat := (p.1 / 10, if p.1 / 10 = 0 then p.2 else (48 + p.1 / 10 % 10) :: p.2)
def figN (n : Nat) : Nat → Nat × List Nat
  | 0 => (n, [48 + n % 10])
  | k + 1 => figStep (figN n k)
theorem figN_ok : (List.range 4096).all (fun n => (figN n 3).2 == TL.numL n) = true := by decide +kernel
theorem figN_len (n : Nat) : ∀ k, (figN n k).2.length ≤ k + 1
  | 0 => Nat.le_refl _
  | k + 1 => by
    have := figN_len n k
    show (figStep (figN n k)).2.length ≤ _
    unfold figStep
    split <;> simp <;> omega
theorem digs_at (k : Nat) (h : k < 10) : ("0123456789" : Str).cps.toList[k]? = some (48 + k) := by
  rw [digs_eq]
  have : k = 0 ∨ k = 1 ∨ k = 2 ∨ k = 3 ∨ k = 4 ∨ k = 5 ∨ k = 6 ∨ k = 7 ∨ k = 8 ∨ k = 9 := by omega
  rcases this with rfl | rfl | rfl | rfl | rfl | rfl | rfl | rfl | rfl | rfl <;> rfl
theorem digs_atI {z : Int} (h0 : 0 ≤ z) (h : z < 10) : atI ("0123456789" : Str).cps.toList z = some (48 + z.toNat) := atI_int h0 (digs_at _ (by omega))
abbrev N__law_figures : List Str := ["_law_number", "_law_found", "_law_turn"]
theorem sc__law_figures : FnScope N__law_figures ["_law_number"] (defScope s__law_figures) := ⟨rfl, rfl, rfl, by decide +kernel, rfl, by decide +kernel, by decide +kernel⟩
def S__law_figures (K : PySem.W.Frag) (mg : Str → Option Value) : Sp := sp1 fun a H Q _ => ∃ i : Int, a = .int i ∧ 0 ≤ i ∧ i ≤ 4095 ∧ Q (.str (toString i : String)) H
theorem fn__law_figures (T : Top K mg) {f : Addr} {fd : FuncData} (D : DefAt K mg "_law_figures" s__law_figures ["_law_number"] f fd) : FnG P w K mg base 1 f fd ["_law_number"] (S__law_figures K mg) := by
  refine fn_of_body D.fn sc__law_figures (fun vs H Q E h => by obtain ⟨_, rfl, _⟩ := h; rfl) (fun cdv A outer s H vs Q E hr h => ?_)
  obtain ⟨a, rfl, h⟩ := h
  have nd : N__law_figures.Nodup := sc__law_figures.nd
  refine ⟨_, pss_cons (ps_set (i := 1) nd rfl (Or.inl rfl) (pe_ix (ix_str) (pe_str) (pe_op (op_mod) (pv 0) (pe_int)) (fun _ _ => rfl)))
  (pss_cons (ps_for (passes_of rfl) rfl (pi_range1 rfl T.b_range (pa_cons (pe_int) (pa_nil))) (pg_name (i := 2) nd rfl (Or.inl rfl)) (pss_cons (ps_set (i := 0) nd rfl (Or.inl rfl) (pe_op (op_fdiv) (pv 0) (pe_int)))
  (pss_one (ps_set (i := 1) nd rfl (Or.inl rfl) (pe_ifExp (pt_cmpR (op_gt) (pv 0) (pe_int) (nomark _)) (pe_op (op_add_str) (pe_ix (ix_str) (pe_str) (pe_op (op_mod) (pv 0) (pe_int)) (fun _ _ => rfl)) (pv 1)) (pv 1))))))
  (pss_one (ps_ret (pv 1)))), ?_⟩
  obtain ⟨i, rfl, h0, h1, q⟩ := h
  obtain ⟨n, rfl⟩ : ∃ n : Nat, i = n := ⟨i.toNat, by omega⟩
  have hd : ∀ m : Int, 0 ≤ m → 0 ≤ m % 10 ∧ m % 10 < 10 := fun m _ => ⟨Int.emod_nonneg _ (by decide), Int.emod_lt_of_pos _ (by decide)⟩
  refine ⟨_, rfl, _, _, rfl, rfl, (by show (0 : Int) < 10; decide), _, _, _, rfl, rfl, by decide +kernel, digs_atI (hd _ h0).1 (hd _ h0).2, ?_⟩
  refine ⟨3, rfl, by decide, by decide, for_range (n := 3) (fun k σ H' => H' = H ∧ ∃ f : Str, f.cps.toList = (figN n k).2 ∧ ∃ t, σ = [some (.int ((figN n k).1 : Int)), some (.str f), t]) ⟨rfl, _, ?_, _, rfl⟩ ?_ ?_⟩
  · show [48 + ((n : Int) % 10).toNat] = [48 + n % 10]
    rw [show ((n : Int) % 10).toNat = n % 10 by omega]
  · rintro k σ H' hk ⟨rfl, f, hf, t, rfl⟩
    have e1 : ((figN n k).1 : Int) / 10 = ((figN n (k + 1)).1 : Int) := by
      show _ = (((figN n k).1 / 10 : Nat) : Int)
      omega
    refine ⟨_, rfl, _, _, rfl, rfl, ⟨by decide, by decide⟩, ?_⟩
    dsimp only
    rw [e1]
    generalize hm : (figN n (k + 1)).1 = m
    have hm2 : (figN n k).1 / 10 = m := hm
    refine ⟨_, rfl, _, _, rfl, rfl, _, rfl, ?_⟩
    by_cases hz : m = 0
    · have ed : decide ((0 : Int) < (m : Int)) = false := decide_eq_false (by omega)
      rw [ed]
      refine iteF ⟨_, rfl, rfl, f, ?_, _, rfl⟩
      show f.cps.toList = (figStep (figN n k)).2
      unfold figStep
      rw [hm2, if_pos hz]
      exact hf
    · have ed : decide ((0 : Int) < (m : Int)) = true := decide_eq_true (by omega)
      rw [ed]
      have hfl := figN_len n k
      rw [← hf] at hfl
      have hfl2 : f.length ≤ 5 := by
        have : f.length = f.cps.toList.length := by rw [Array.length_toList]; rfl
        omega
      have hmn : (0 : Int) ≤ (m : Int) := by omega
      refine iteT ⟨_, rfl, _, _, rfl, rfl, (by show (0 : Int) < 10; decide), _, _, _, rfl, rfl, by decide +kernel, digs_atI (hd _ hmn).1 (hd _ hmn).2, _, rfl, _, _, rfl, rfl, ?_, rfl, _, ?_, _, rfl⟩
      · show 1 + f.length ≤ sizeLine
        exact Nat.le_trans (by omega : 1 + f.length ≤ 6) (by decide)
      · show _ = (figStep (figN n k)).2
        unfold figStep
        rw [hm2, if_neg hz, Str.cps_append, Array.toList_append, hf]
        show [48 + ((m : Int) % 10).toNat] ++ _ = _
        rw [show ((m : Int) % 10).toNat = m % 10 by omega]
        rfl
  · rintro σ H' ⟨rfl, f, hf, t, rfl⟩
    have e2 := List.all_eq_true.mp figN_ok n (List.mem_range.mpr (by omega))
    have e3 : f = Str.ofString (toString (n : Int)) := by
      refine TL.ext_tl ?_
      rw [TL.tl_num]
      exact hf.trans (beq_iff_eq.mp e2)
    rw [← e3] at q
    exact ⟨_, rfl, q⟩
theorem cal__law_figures (T : Top K mg) : Cal P w K mg base 1 "_law_figures" [] (S__law_figures K mg) := by
  obtain ⟨f, fd, D⟩ := T.d__law_figures
  exact cal_mk D (fn__law_figures T D)
/-! ### is_whole -/
abbrev N_is_whole : List Str := ["thing"]
theorem sc_is_whole : FnScope N_is_whole ["thing"] (defScope s_is_whole) := ⟨rfl, rfl, rfl, by decide +kernel, rfl, by decide +kernel, by decide +kernel⟩
def S_is_whole (K : PySem.W.Frag) (mg : Str → Option Value) : Sp := sp1 fun a H Q _ => ∃ n, Thing K H a n ∧ Q (.bl (isIntV a)) H
theorem fn_is_whole (T : Top K mg) {f : Addr} {fd : FuncData} (D : DefAt K mg "is_whole" s_is_whole ["thing"] f fd) : FnG P w K mg base 1 f fd ["thing"] (S_is_whole K mg) := by
  refine fn_of_body D.fn sc_is_whole (fun vs H Q E h => by obtain ⟨_, rfl, _⟩ := h; rfl) (fun cdv A outer s H vs Q E hr h => ?_)
  obtain ⟨a, rfl, h⟩ := h
  have nd : N_is_whole.Nodup := sc_is_whole.nd
  refine ⟨_, pss_one (ps_ret (pe_and (pe_callB call_isB (by rfl) T.b_isinstance (by decide +kernel) (pa_cons (pv 0) (pa_cons (pe_bltn (v := .ty "int") rfl T.b_int boot_int rfl) (pa_nil)))) (pe_one (pe_not (pe_callB call_isB (by rfl) T.b_isinstance (by decide +kernel) (pa_cons (pv 0) (pa_cons (pe_bltn (v := .ty "bool") rfl T.b_bool boot_bool rfl) (pa_nil)))))))), ?_⟩
  obtain ⟨n, th, q⟩ := h
  refine ⟨_, rfl, _, _, _, rfl, th, (by decide), _, rfl, ?_⟩
  have e := isInt_of th
  cases c : subB n "int" with
  | false =>
    rw [c] at e
    refine iteF ?_
    show Q (.bl false) H
    rw [show (false : Bool) = isIntV a from e]
    exact q
  | true =>
    rw [c] at e
    refine iteT ⟨_, rfl, _, _, _, rfl, th, (by decide), _, rfl, ?_⟩
    show Q (.bl (!subB n "bool")) H
    rw [show (!subB n "bool") = isIntV a from e]
    exact q
theorem cal_is_whole (T : Top K mg) : Cal P w K mg base 1 "is_whole" [] (S_is_whole K mg) := by
  obtain ⟨f, fd, D⟩ := T.d_is_whole
  exact cal_mk D (fn_is_whole T D)
/-! ### is_between -/
abbrev N_is_between : List Str := ["thing", "low", "high"]
theorem sc_is_between : FnScope N_is_between ["thing", "low", "high"] (defScope s_is_between) := ⟨rfl, rfl, rfl, by decide +kernel, rfl, by decide +kernel, by decide +kernel⟩
def S_is_between (K : PySem.W.Frag) (mg : Str → Option Value) : Sp := sp3 fun a b c H Q _ => ∃ n lo hi, Thing K H a n ∧ b = .int lo ∧ c = .int hi ∧ Q (.bl (btwV a lo hi)) H
theorem fn_is_between (T : Top K mg) {f : Addr} {fd : FuncData} (D : DefAt K mg "is_between" s_is_between ["thing", "low", "high"] f fd) : FnG P w K mg base 2 f fd ["thing", "low", "high"] (S_is_between K mg) := by
  refine fn_of_body D.fn sc_is_between (fun vs H Q E h => by obtain ⟨_, _, _, rfl, _⟩ := h; rfl) (fun cdv A outer s H vs Q E hr h => ?_)
  obtain ⟨a, b, c, rfl, h⟩ := h
  have nd : N_is_between.Nodup := sc_is_between.nd
  refine ⟨_, pss_one (ps_ret (pe_and (pe_c (cal_is_whole T) hr pass (pa_cons (pv 0) (pa_nil))) (pe_one (pe_chain (op_le) (op_le) (pv 1) (pv 0) (pv 2))))), ?_⟩
  obtain ⟨n, lo, hi, th, rfl, rfl, q⟩ := h
  refine ⟨_, rfl, _, rfl, n, th, _, rfl, ?_⟩
  cases a with
  | int i =>
    refine iteT ⟨_, rfl, _, rfl, _, _, rfl, rfl, _, rfl, ?_⟩
    cases e : decide (lo ≤ i) with
    | false =>
      refine iteF ?_
      rw [show btwV (.int i) lo hi = false by simp only [btwV, e, Bool.false_and]] at q
      exact q
    | true =>
      refine iteT ⟨_, rfl, _, _, rfl, rfl, ?_⟩
      rw [show btwV (.int i) lo hi = decide (i ≤ hi) by simp only [btwV, e, Bool.true_and]] at q
      exact q
  | _ => exact iteF q
theorem cal_is_between (T : Top K mg) : Cal P w K mg base 2 "is_between" [] (S_is_between K mg) := by
  obtain ⟨f, fd, D⟩ := T.d_is_between
  exact cal_mk D (fn_is_between T D)
/-! ### is_word -/
abbrev N_is_word : List Str := ["thing"]
theorem sc_is_word : FnScope N_is_word ["thing"] (defScope s_is_word) := ⟨rfl, rfl, rfl, by decide +kernel, rfl, by decide +kernel, by decide +kernel⟩
def S_is_word (K : PySem.W.Frag) (mg : Str → Option Value) : Sp := sp1 fun a H Q _ => ∃ n, Thing K H a n ∧ Q (.bl (btwV a 0 65535)) H
theorem fn_is_word (T : Top K mg) {f : Addr} {fd : FuncData} (D : DefAt K mg "is_word" s_is_word ["thing"] f fd) : FnG P w K mg base 3 f fd ["thing"] (S_is_word K mg) := by
  refine fn_of_body D.fn sc_is_word (fun vs H Q E h => by obtain ⟨_, rfl, _⟩ := h; rfl) (fun cdv A outer s H vs Q E hr h => ?_)
  obtain ⟨a, rfl, h⟩ := h
  have nd : N_is_word.Nodup := sc_is_word.nd
  refine ⟨_, pss_one (ps_ret (pe_c (cal_is_between T) hr pass (pa_cons (pv 0) (pa_cons (pe_int) (pa_cons (pe_gi T.c_MOST_WORD) (pa_nil)))))), ?_⟩
  obtain ⟨n, th, q⟩ := h
  exact ⟨_, rfl, ⟨_, _, _, rfl, n, _, _, th, rfl, rfl, q⟩⟩
theorem cal_is_word (T : Top K mg) : Cal P w K mg base 3 "is_word" [] (S_is_word K mg) := by
  obtain ⟨f, fd, D⟩ := T.d_is_word
  exact cal_mk D (fn_is_word T D)
/-! ### need_word -/
abbrev N_need_word : List Str := ["thing"]
theorem sc_need_word : FnScope N_need_word ["thing"] (defScope s_need_word) := ⟨rfl, rfl, rfl, by decide +kernel, rfl, by decide +kernel, by decide +kernel⟩
def S_need_word (K : PySem.W.Frag) (mg : Str → Option Value) : Sp := sp1 fun a H Q E => (btwV a 0 65535 = true ∧ Q .non H) ∨ (btwV a 0 65535 = false ∧ (∃ n, Thing K H a n) ∧ ∀ C, mg "NoWord" = some (.ref C) → E (.ref C) none H)
theorem fn_need_word (T : Top K mg) {f : Addr} {fd : FuncData} (D : DefAt K mg "need_word" s_need_word ["thing"] f fd) : FnG P w K mg base 4 f fd ["thing"] (S_need_word K mg) := by
  refine fn_of_body D.fn sc_need_word (fun vs H Q E h => by obtain ⟨_, rfl, _⟩ := h; rfl) (fun cdv A outer s H vs Q E hr h => ?_)
  obtain ⟨a, rfl, h⟩ := h
  have nd : N_need_word.Nodup := sc_need_word.nd
  refine ⟨_, pss_one (ps_if (pt_not (pt_val (pe_c (cal_is_word T) hr pass (pa_cons (pv 0) (pa_nil))))) (pss_one (ps_raise rfl (takes_of rfl rfl rfl rfl) (G.pmk_own T.k_NoWord))) (pss_nil)), ?_⟩
  rcases h with ⟨e, q⟩ | ⟨e, ⟨n, th⟩, q⟩
  · obtain ⟨i, rfl, _⟩ := btwV_ex e
    refine ⟨_, rfl, _, rfl, _, .int i, _, rfl, ?_⟩
    rw [e]
    exact iteF q
  · refine ⟨_, rfl, _, rfl, n, th, _, rfl, ?_⟩
    rw [e]
    exact iteT q
theorem cal_need_word (T : Top K mg) : Cal P w K mg base 4 "need_word" [] (S_need_word K mg) := by
  obtain ⟨f, fd, D⟩ := T.d_need_word
  exact cal_mk D (fn_need_word T D)
/-! ### address_by -/
abbrev N_address_by : List Str := ["word"]
theorem sc_address_by : FnScope N_address_by ["word"] (defScope s_address_by) := ⟨rfl, rfl, rfl, by decide +kernel, rfl, by decide +kernel, by decide +kernel⟩
def S_address_by (K : PySem.W.Frag) (mg : Str → Option Value) : Sp := sp1 fun a H Q _ => ∃ i, a = .int i ∧ Q (.int (i % 4096)) H
theorem fn_address_by (T : Top K mg) {f : Addr} {fd : FuncData} (D : DefAt K mg "address_by" s_address_by ["word"] f fd) : FnG P w K mg base 1 f fd ["word"] (S_address_by K mg) := by
  refine fn_of_body D.fn sc_address_by (fun vs H Q E h => by obtain ⟨_, rfl, _⟩ := h; rfl) (fun cdv A outer s H vs Q E hr h => ?_)
  obtain ⟨a, rfl, h⟩ := h
  have nd : N_address_by.Nodup := sc_address_by.nd
  refine ⟨_, pss_one (ps_ret (pe_op (op_mod) (pv 0) (pe_gi T.c_SPAN))), ?_⟩
  obtain ⟨i, rfl, q⟩ := h
  exact ⟨_, rfl, _, _, rfl, rfl, (by show (0 : Int) < 4096; decide), q⟩
theorem cal_address_by (T : Top K mg) : Cal P w K mg base 1 "address_by" [] (S_address_by K mg) := by
  obtain ⟨f, fd, D⟩ := T.d_address_by
  exact cal_mk D (fn_address_by T D)
/-! ### kind_by -/
abbrev N_kind_by : List Str := ["word"]
theorem sc_kind_by : FnScope N_kind_by ["word"] (defScope s_kind_by) := ⟨rfl, rfl, rfl, by decide +kernel, rfl, by decide +kernel, by decide +kernel⟩
def S_kind_by (K : PySem.W.Frag) (mg : Str → Option Value) : Sp := sp1 fun a H Q _ => ∃ i, a = .int i ∧ Q (.int (i / 4096)) H
theorem fn_kind_by (T : Top K mg) {f : Addr} {fd : FuncData} (D : DefAt K mg "kind_by" s_kind_by ["word"] f fd) : FnG P w K mg base 1 f fd ["word"] (S_kind_by K mg) := by
  refine fn_of_body D.fn sc_kind_by (fun vs H Q E h => by obtain ⟨_, rfl, _⟩ := h; rfl) (fun cdv A outer s H vs Q E hr h => ?_)
  obtain ⟨a, rfl, h⟩ := h
  have nd : N_kind_by.Nodup := sc_kind_by.nd
  refine ⟨_, pss_one (ps_ret (pe_op (op_fdiv) (pv 0) (pe_gi T.c_SPAN))), ?_⟩
  obtain ⟨i, rfl, q⟩ := h
  exact ⟨_, rfl, _, _, rfl, rfl, ⟨by decide, by decide⟩, q⟩
theorem cal_kind_by (T : Top K mg) : Cal P w K mg base 1 "kind_by" [] (S_kind_by K mg) := by
  obtain ⟨f, fd, D⟩ := T.d_kind_by
  exact cal_mk D (fn_kind_by T D)
/-! ### row_by -/
abbrev N_row_by : List Str := ["word"]
theorem sc_row_by : FnScope N_row_by ["word"] (defScope s_row_by) := ⟨rfl, rfl, rfl, by decide +kernel, rfl, by decide +kernel, by decide +kernel⟩
def S_row_by (K : PySem.W.Frag) (mg : Str → Option Value) : Sp := sp1 fun a H Q _ => ∃ i, a = .int i ∧ 0 ≤ i ∧ i ≤ 65535 ∧ Q (.str (rowT i)) H
theorem fn_row_by (T : Top K mg) {f : Addr} {fd : FuncData} (D : DefAt K mg "row_by" s_row_by ["word"] f fd) : FnG P w K mg base 2 f fd ["word"] (S_row_by K mg) := by
  refine fn_of_body D.fn sc_row_by (fun vs H Q E h => by obtain ⟨_, rfl, _⟩ := h; rfl) (fun cdv A outer s H vs Q E hr h => ?_)
  obtain ⟨a, rfl, h⟩ := h
  have nd : N_row_by.Nodup := sc_row_by.nd
  obtain ⟨a_KINDS, m_KINDS, s_KINDS⟩ := T.c_KINDS
  refine ⟨_, pss_one (ps_ret (pe_joined (PJ.cons (pe_fmt (pe_ix (ix_tup) (pe_glob (v := .ref a_KINDS) rfl m_KINDS rfl) (pe_c (cal_kind_by T) hr pass (pa_cons (pv 0) (pa_nil))) (fun _ _ => rfl))) (PJ.cons (pe_str) (PJ.cons (pe_fmt (pe_c (cal_address_by T) hr pass (pa_cons (pv 0) (pa_nil)))) (PJ.nil)))))), ?_⟩
  obtain ⟨i, rfl, h0, h1, q⟩ := h
  have hk : 0 ≤ i / 4096 ∧ i / 4096 < 16 := by omega
  have hn : (i / 4096).toNat < KN.length := by show (i / 4096).toNat < 16; omega
  have e1 : (KN.map V.str)[(i / 4096).toNat]? = some (V.str (KN.getD (i / 4096).toNat Str.empty)) := by
    rw [List.getElem?_map, List.getD_eq_getElem?_getD, List.getElem?_eq_getElem hn]
    rfl
  have e2 : ∀ n : Nat, n < 16 → (KN.getD n Str.empty).length ≤ 5 := by decide +kernel
  have e3 := e2 (i / 4096).toNat (by omega)
  have e4 : (Str.ofString (toString (i % 4096))).length ≤ 1921 := int_text_len_1921 (log_fine (by omega))
  have s5 : (6000 : Nat) ≤ sizeLine := by decide
  have hx : SqT K H a_KINDS (KN.map V.str) := s_KINDS.sq H
  have l0 : Str.empty.length = 0 := rfl
  have l1 : (" " : Str).length = 1 := rfl
  refine ⟨_, rfl, _, rfl, i, rfl, _, _, _, _, rfl, rfl, hx, atI_int hk.1 e1, .inl ⟨_, rfl, by omega, _, rfl, ?_, _, rfl, ?_, _, rfl, _, rfl, i, rfl, .inr ⟨_, rfl, log_fine (by omega), _, rfl, ?_, q⟩⟩⟩
  all_goals
    simp only [Str.length_append, l0, l1]
    omega
theorem cal_row_by (T : Top K mg) : Cal P w K mg base 2 "row_by" [] (S_row_by K mg) := by
  obtain ⟨f, fd, D⟩ := T.d_row_by
  exact cal_mk D (fn_row_by T D)
/-! ### row_of -/
abbrev N_row_of : List Str := ["word"]
theorem sc_row_of : FnScope N_row_of ["word"] (defScope s_row_of) := ⟨rfl, rfl, rfl, by decide +kernel, rfl, by decide +kernel, by decide +kernel⟩
def S_row_of (K : PySem.W.Frag) (mg : Str → Option Value) : Sp := sp1 fun a H Q E => (∃ i, a = .int i ∧ 0 ≤ i ∧ i ≤ 65535 ∧ Q (.str (rowT i)) H) ∨ (btwV a 0 65535 = false ∧ (∃ n, Thing K H a n) ∧ ∀ C, mg "NoWord" = some (.ref C) → E (.ref C) none H)
theorem fn_row_of (T : Top K mg) {f : Addr} {fd : FuncData} (D : DefAt K mg "row_of" s_row_of ["word"] f fd) : FnG P w K mg base 5 f fd ["word"] (S_row_of K mg) := by
  refine fn_of_body D.fn sc_row_of (fun vs H Q E h => by obtain ⟨_, rfl, _⟩ := h; rfl) (fun cdv A outer s H vs Q E hr h => ?_)
  obtain ⟨a, rfl, h⟩ := h
  have nd : N_row_of.Nodup := sc_row_of.nd
  refine ⟨_, pss_cons (ps_expr (pe_c (cal_need_word T) hr pass (pa_cons (pv 0) (pa_nil))))
  (pss_one (ps_ret (pe_c (cal_row_by T) (hr.mono (by decide)) pass (pa_cons (pv 0) (pa_nil))))), ?_⟩
  rcases h with ⟨i, rfl, h0, h1, q⟩ | q
  · exact ⟨_, rfl, _, rfl, .inl ⟨btwV_int ⟨h0, h1⟩, _, rfl, _, rfl, i, rfl, h0, h1, q⟩⟩
  · exact ⟨_, rfl, _, rfl, .inr q⟩
def gk_row_of_0_word {α : Type} : List α → List α → List α
  | [], [w0] => [w0]
  | _, _ => []
theorem gk_row_of_0_word_rel {vs zs : List V} {us ws : List Value} (r : Vals vs us) (q : Vals zs ws) : Vals (gk_row_of_0_word vs zs) (gk_row_of_0_word us ws) := by
  cases r with
  | cons _ _ => exact .nil
  | nil =>
    cases q with
    | nil => exact .nil
    | cons w0 qx =>
      cases qx with
      | cons _ _ => exact .nil
      | nil =>
        exact .cons w0 (.nil)
theorem cal_row_of_k0_word (T : Top K mg) : CalK P w K mg base 5 "row_of" ["word"] gk_row_of_0_word (S_row_of K mg) := by
  obtain ⟨f, fd, D⟩ := T.d_row_of
  refine calK_mk (g := @gk_row_of_0_word) D (fn_row_of T D) (fun r q => gk_row_of_0_word_rel r q) (fun _ _ _ _ _ _ us ws hl => ?_)
  match us, ws, hl with
  | [], [_], _ => rfl
theorem cal_row_of (T : Top K mg) : Cal P w K mg base 5 "row_of" [] (S_row_of K mg) := by
  obtain ⟨f, fd, D⟩ := T.d_row_of
  exact cal_mk D (fn_row_of T D)
/-! ### figures_in -/
abbrev N_figures_in : List Str := ["text", "most", "sign"]
theorem sc_figures_in : FnScope N_figures_in ["text", "most"] (defScope s_figures_in) := ⟨rfl, rfl, rfl, by decide +kernel, rfl, by decide +kernel, by decide +kernel⟩
def S_figures_in (K : PySem.W.Frag) (mg : Str → Option Value) : Sp := sp2 fun a b H Q _ => ∃ x m, a = .str x ∧ b = .int m ∧ x.length ≤ sizeLine ∧ m ≤ 640 ∧ ∀ H', Same H H' → Q (optV (figsIn x m)) H'
theorem fn_figures_in (T : Top K mg) {f : Addr} {fd : FuncData} (D : DefAt K mg "figures_in" s_figures_in ["text", "most"] f fd) : FnG P w K mg base 1 f fd ["text", "most"] (S_figures_in K mg) := by
  refine fn_of_body D.fn sc_figures_in (fun vs H Q E h => by obtain ⟨_, _, rfl, _⟩ := h; rfl) (fun cdv A outer s H vs Q E hr h => ?_)
  obtain ⟨a, b, rfl, h⟩ := h
  have nd : N_figures_in.Nodup := sc_figures_in.nd
  refine ⟨_, pss_cons (ps_if (PW.pt (pw_or (pt_not (pt_chain (op_le) (op_le) (pe_int) (pe_callB call_len_str (by rfl) T.b_len PySem.boot_len (pa_cons (pv 0) (pa_nil))) (pv 1))) (pw_or1 (pt_not (pt_val (pe_callB (cr_all rfl) (by rfl) T.b_all (by decide +kernel) (pa_cons (pe_lc (own := [("sign", 2)]) (g := gName 2) (tt := tYes) rfl nd (pi_str (pv 0)) (blkOk_by (own := [("sign", 2)]) (N := N_figures_in) (sc := defScope s_figures_in) (by decide +kernel)) (fun _ _ _ _ _ => pg_name (i := 2) nd rfl (Or.inl rfl)) (fun _ _ _ _ _ => pts_nil) (fun _ _ _ _ _ => pe_cmpR (op_in_sign) (pv 2) (pe_gs T.c_FIGURES) (by rfl))) (pa_nil)))))))) (pss_one (ps_ret (pe_non))) (pss_nil))
  (pss_one (ps_ret (pe_ifExp (PW.pt (pw_and (pt_cmpR (op_eq) (pe_ix (ix_str) (pv 0) (pe_int) (fun _ _ => rfl)) (pe_str) (nomark _)) (pw_and1 (pt_cmpR (op_ne) (pv 0) (pe_str) (nomark _))))) (pe_non) (pe_callTy (call_int_str) (by rfl) T.b_int (by decide +kernel) (pa_cons (pv 0) (pa_nil)))))), ?_⟩
  obtain ⟨x, m, rfl, rfl, hz, hm, q⟩ := h
  refine ⟨_, rfl, _, rfl, hz, _, _, rfl, rfl, _, rfl, ?_⟩
  cases e1 : decide (1 ≤ (x.length : Int)) with
  | false =>
    refine iteF ⟨_, rfl, iteT (iteT ?_)⟩
    have := q H (Same.refl H)
    rw [show figsIn x m = none by unfold figsIn; rw [e1]; rfl] at this
    exact this
  | true =>
    refine iteT ⟨_, rfl, _, _, rfl, rfl, _, rfl, ?_⟩
    cases e2 : decide ((x.length : Int) ≤ m) with
    | false =>
      refine iteT (iteT ?_)
      have := q H (Same.refl H)
      rw [show figsIn x m = none by unfold figsIn; rw [e1, e2]; rfl] at this
      exact this
    | true =>
      refine iteF ⟨_, rfl, x, rfl, fun D hD => lc_map walk_str (x.cps.toList.map fun c => V.bl (isDig c)) (by simp) hz (fun _ => trivial) ?_ ?_⟩
      · rintro i v H' H'' R hi e ⟨rfl, c, hc, rfl⟩ hR
        refine ⟨rfl, _, rfl, c, _, rfl, rfl, ?_⟩
        rw [isDig_mem]
        refine hR _ ?_
        rw [List.getElem?_map, Array.getElem?_toList, hc]
        rfl
      · have sm : Same H (upd H D (.lst (x.cps.toList.map fun c => V.bl (isDig c)))) := fun b o h => upd_old h hD
        have q2 := q _ sm
        refine ⟨D, x.cps.toList.map isDig, rfl, ?_, _, rfl, ?_⟩
        · rw [List.map_map]
          exact SqL.of upd_same
        have e3 : (x.cps.toList.map isDig).all id = x.cps.toList.all isDig := by rw [List.all_map]; rfl
        rw [e3]
        cases e4 : x.cps.toList.all isDig with
        | false =>
          rw [show figsIn x m = none by unfold figsIn; rw [e1, e2, e4]; rfl] at q2
          exact iteT q2
        | true =>
          have e1' : 1 ≤ (x.length : Int) := of_decide_eq_true e1
          have e2' : (x.length : Int) ≤ m := of_decide_eq_true e2
          have hlen : x.cps.toList.length = x.length := by rw [Array.length_toList]; rfl
          have hfi : figsIn x m = (if x.cps.toList.head? = some 48 ∧ x ≠ "0" then none else some ((NumText.digitsVal x.cps.toList : Nat) : Int)) := by unfold figsIn; rw [e1, e2, e4]; rfl
          rw [hfi] at q2
          obtain ⟨c, r, hcr⟩ : ∃ c r, x.cps.toList = c :: r := by
            cases e : x.cps.toList with
            | nil => rw [e] at hlen; simp at hlen; omega
            | cons c r => exact ⟨c, r, rfl⟩
          have hat : atI x.cps.toList 0 = some c := atI_int (by decide) (by rw [hcr]; rfl)
          have hint : PySem.intText? x = some ((NumText.digitsVal x.cps.toList : Nat) : Int) := by
            refine PySem.intText_digits (fun d hd => ?_) (by rw [hcr]; exact List.cons_ne_nil _ _) (by omega)
            have h5 := List.all_eq_true.mp e4 d hd
            simp only [isDig, Bool.and_eq_true, decide_eq_true_eq] at h5
            exact h5
          refine iteF ⟨_, rfl, _, _, _, rfl, rfl, hz, hat, rfl, _, rfl, ?_⟩
          have ed : decide (V.str ⟨#[c]⟩ = V.str "0") = decide (c = 48) := by
            refine decide_eq_decide.mpr ⟨fun z => ?_, fun z => by subst z; rfl⟩
            have z2 : (⟨#[c]⟩ : Str) = "0" := V.str.inj z
            have z3 : ([c] : List Nat) = [48] := congrArg (fun y : Str => y.cps.toList) z2
            exact (List.cons.inj z3).1
          rw [ed]
          by_cases h48 : c = 48
          · rw [decide_eq_true h48]
            refine iteT ⟨_, rfl, rfl, _, rfl, ?_⟩
            by_cases hx0 : x = "0"
            · have ed2 : (!decide (V.str x = V.str "0")) = false := by rw [hx0]; rfl
              rw [ed2]
              refine iteF ⟨_, rfl, x, _, rfl, hint, by omega, ?_⟩
              rw [if_neg (fun z => z.2 hx0)] at q2
              exact q2
            · have ed2 : (!decide (V.str x = V.str "0")) = true := by
                rw [decide_eq_false (fun z => hx0 (V.str.inj z))]
                rfl
              rw [ed2]
              refine iteT ?_
              rw [if_pos ⟨by rw [hcr, h48]; rfl, hx0⟩] at q2
              exact q2
          · rw [decide_eq_false h48]
            refine iteF (iteF ⟨_, rfl, x, _, rfl, hint, by omega, ?_⟩)
            rw [if_neg (fun z => h48 (by rw [hcr] at z; exact Option.some.inj z.1))] at q2
            exact q2
theorem cal_figures_in (T : Top K mg) : Cal P w K mg base 1 "figures_in" [] (S_figures_in K mg) := by
  obtain ⟨f, fd, D⟩ := T.d_figures_in
  exact cal_mk D (fn_figures_in T D)
/-! ### word_by -/
abbrev N_word_by : List Str := ["kind", "address"]
theorem sc_word_by : FnScope N_word_by ["kind", "address"] (defScope s_word_by) := ⟨rfl, rfl, rfl, by decide +kernel, rfl, by decide +kernel, by decide +kernel⟩
def S_word_by (K : PySem.W.Frag) (mg : Str → Option Value) : Sp := sp2 fun a b H Q _ => ∃ i j, a = .int i ∧ b = .int j ∧ Q (.int (i * 4096 + j)) H
theorem fn_word_by (T : Top K mg) {f : Addr} {fd : FuncData} (D : DefAt K mg "word_by" s_word_by ["kind", "address"] f fd) : FnG P w K mg base 1 f fd ["kind", "address"] (S_word_by K mg) := by
  refine fn_of_body D.fn sc_word_by (fun vs H Q E h => by obtain ⟨_, _, rfl, _⟩ := h; rfl) (fun cdv A outer s H vs Q E hr h => ?_)
  obtain ⟨a, b, rfl, h⟩ := h
  have nd : N_word_by.Nodup := sc_word_by.nd
  refine ⟨_, pss_one (ps_ret (pe_op (op_add) (pe_op (op_mul) (pv 0) (pe_gi T.c_SPAN)) (pv 1))), ?_⟩
  obtain ⟨i, j, rfl, rfl, q⟩ := h
  exact ⟨_, rfl, _, _, rfl, rfl, .inr ⟨by decide, by decide⟩, _, rfl, _, _, rfl, rfl, q⟩
theorem cal_word_by (T : Top K mg) : Cal P w K mg base 1 "word_by" [] (S_word_by K mg) := by
  obtain ⟨f, fd, D⟩ := T.d_word_by
  exact cal_mk D (fn_word_by T D)
/-! ### row_in -/
abbrev N_row_in : List Str := ["text", "kind", "between", "rest", "number"]
theorem sc_row_in : FnScope N_row_in ["text"] (defScope s_row_in) := ⟨rfl, rfl, rfl, by decide +kernel, rfl, by decide +kernel, by decide +kernel⟩
def S_row_in (K : PySem.W.Frag) (mg : Str → Option Value) : Sp := sp1 fun a H Q _ => ∃ x, a = .str x ∧ x.length ≤ sizeLine ∧ ∀ H', Same H H' → Q (optV (rowIn x)) H'
theorem fn_row_in (T : Top K mg) {f : Addr} {fd : FuncData} (D : DefAt K mg "row_in" s_row_in ["text"] f fd) : FnG P w K mg base 2 f fd ["text"] (S_row_in K mg) := by
  refine fn_of_body D.fn sc_row_in (fun vs H Q E h => by obtain ⟨_, rfl, _⟩ := h; rfl) (fun cdv A outer s H vs Q E hr h => ?_)
  obtain ⟨a, rfl, h⟩ := h
  have nd : N_row_in.Nodup := sc_row_in.nd
  obtain ⟨a_KINDS, m_KINDS, s_KINDS⟩ := T.c_KINDS
  refine ⟨_, pss_cons (ps_asg (pe_partition (pv 0) (pe_str)) (pg_tup rfl (pgs_cons (pg_name (i := 1) nd rfl (Or.inl rfl)) (pgs_cons (pg_name (i := 2) nd rfl (Or.inl rfl)) (pgs_cons (pg_name (i := 3) nd rfl (Or.inl rfl)) (pgs_nil))))))
  (pss_cons (ps_set (i := 4) nd rfl (Or.inl rfl) (pe_c (cal_figures_in T) hr pass (pa_cons (pv 3) (pa_cons (pe_gi T.c_MOST_FIGURES) (pa_nil)))))
  (pss_cons (ps_if (PW.pt (pw_or (pt_cmpR (op_notIn_seq) (pv 1) (pe_glob (v := .ref a_KINDS) rfl m_KINDS rfl) (by rfl)) (pw_or (pt_cmpR (op_eq) (pv 2) (pe_str) (nomark _)) (pw_or (pt_cmp (pc_isN (pv 4))) (pw_or1 (pt_cmpR (op_gt) (pv 4) (pe_gi T.c_MOST_ADDRESS) (nomark _))))))) (pss_one (ps_ret (pe_non))) (pss_nil))
  (pss_one (ps_ret (pe_c (cal_word_by T) hr pass (pa_cons (pe_bm PySem.F.plainAttrs_tuple PySem.F.slot_tuple_index PySem.F.type_tuple_index (mt_tup_index) (pe_glob (v := .ref a_KINDS) rfl m_KINDS rfl) (pa_cons (pv 1) (pa_nil))) (pa_cons (pv 4) (pa_nil)))))))), ?_⟩
  obtain ⟨x, rfl, hz, q⟩ := h
  have hx : ∀ H, SqT K H a_KINDS (KN.map V.str) := fun H => s_KINDS.sq H
  refine ⟨_, rfl, ⟨_, rfl⟩, x, " ", rfl, rfl, rfl, hz, fun p hp => ⟨p, _, rfl, SqT.of upd_same, rfl, _, _, rfl, _, _, rfl, _, _, rfl, rfl, ?_⟩⟩
  have hr : (Txt.partition x " ").2.2.length ≤ sizeLine := Nat.le_trans (part_len x) hz
  refine ⟨_, rfl, _, _, rfl, _, 4, rfl, rfl, hr, by decide, fun H2 s2 => ?_⟩
  have q2 := q H2 (Same.trans (fun b o e => upd_old e hp) s2)
  unfold rowIn at q2
  refine ⟨_, rfl, a_KINDS, _, rfl, .inr (hx H2), rfl, flat_strs KN, ?_⟩
  rw [inV_strs]
  refine ⟨_, rfl, ?_⟩
  by_cases hk : (Txt.partition x " ").1 ∈ KN
  · rw [decide_eq_true hk]
    refine iteF ⟨_, rfl, rfl, _, rfl, ?_⟩
    by_cases hb : (Txt.partition x " ").2.1 = ""
    · rw [hb]
      refine iteT (iteT ?_)
      cases e : figsIn (Txt.partition x " ").2.2 4 with
      | none => rw [e] at q2; exact q2
      | some n => rw [e] at q2; simp only [hb, ne_eq, not_true_eq_false, false_and, and_false, ↓reduceIte] at q2; exact q2
    · have ed : decide (V.str (Txt.partition x " ").2.1 = V.str "") = false := decide_eq_false fun z => hb (V.str.inj z)
      rw [ed]
      refine iteF ⟨_, rfl, _, rfl, ?_⟩
      cases e : figsIn (Txt.partition x " ").2.2 4 with
      | none => rw [e] at q2; exact iteT (iteT q2)
      | some n =>
        rw [e] at q2
        refine iteF ⟨_, rfl, _, _, rfl, rfl, _, rfl, ?_⟩
        by_cases h4 : n ≤ 4095
        · rw [decide_eq_false (show ¬ (4095 : Int) < n by omega)]
          refine iteF ?_
          simp only [hk, hb, h4, ne_eq, not_false_eq_true, and_self, ↓reduceIte] at q2
          exact ⟨s_KINDS.ty H2, _, rfl, a_KINDS, KN, _, _, rfl, rfl, hx H2, knIdx_get hk, fun m => knIdx_first, _, rfl, _, _, rfl, _, _, rfl, rfl, q2⟩
        · rw [decide_eq_true (show (4095 : Int) < n by omega)]
          simp only [h4, and_false, ↓reduceIte] at q2
          exact iteT q2
  · rw [decide_eq_false hk]
    refine iteT (iteT ?_)
    cases e : figsIn (Txt.partition x " ").2.2 4 with
    | none => rw [e] at q2; exact q2
    | some n => rw [e] at q2; simp only [hk, false_and, ↓reduceIte] at q2; exact q2
theorem cal_row_in (T : Top K mg) : Cal P w K mg base 2 "row_in" [] (S_row_in K mg) := by
  obtain ⟨f, fd, D⟩ := T.d_row_in
  exact cal_mk D (fn_row_in T D)
/-! ### word_in -/
abbrev N_word_in : List Str := ["row", "found"]
theorem sc_word_in : FnScope N_word_in ["row"] (defScope s_word_in) := ⟨rfl, rfl, rfl, by decide +kernel, rfl, by decide +kernel, by decide +kernel⟩
def S_word_in (K : PySem.W.Frag) (mg : Str → Option Value) : Sp := sp1 fun a H Q E => ∃ n, Thing K H a n ∧ (∀ x, a = .str x → x.length ≤ sizeLine) ∧ (∀ i, wordInV a = some i → ∀ H', Same H H' → Q (.int i) H') ∧ (wordInV a = none → ∀ C, mg "NoRow" = some (.ref C) → ∀ H', Same H H' → E (.ref C) none H')
theorem fn_word_in (T : Top K mg) {f : Addr} {fd : FuncData} (D : DefAt K mg "word_in" s_word_in ["row"] f fd) : FnG P w K mg base 3 f fd ["row"] (S_word_in K mg) := by
  refine fn_of_body D.fn sc_word_in (fun vs H Q E h => by obtain ⟨_, rfl, _⟩ := h; rfl) (fun cdv A outer s H vs Q E hr h => ?_)
  obtain ⟨a, rfl, h⟩ := h
  have nd : N_word_in.Nodup := sc_word_in.nd
  refine ⟨_, pss_cons (ps_set (i := 1) nd rfl (Or.inl rfl) (pe_ifExp (pt_val (pe_callB (call_isB) (by rfl) T.b_isinstance (by decide +kernel) (pa_cons (pv 0) (pa_cons (pe_bltn (v := .ty "str") rfl T.b_str boot_str rfl) (pa_nil))))) (pe_c (cal_row_in T) hr pass (pa_cons (pv 0) (pa_nil))) (pe_non)))
  (pss_cons (ps_if (pt_cmp (pc_isN (pv 1))) (pss_one (ps_raise rfl (takes_of rfl rfl rfl rfl) (G.pmk_own T.k_NoRow))) (pss_nil))
  (pss_one (ps_ret (pv 1)))), ?_⟩
  obtain ⟨n, th, hz, q1, q2⟩ := h
  refine ⟨_, rfl, _, _, _, rfl, th, (by decide), _, rfl, ?_⟩
  have fin : ∀ H', Same H H' → ∀ o, o = wordInV a → (tIfS (tB (tIsN (tVar 1))) (fun _ σ H_1 => ∀ C, mg "NoRow" = some (.ref C) → E (.ref C) none H_1) tNext) { nx := fun σ' H2 => (tRet (tVar 1)) { nx := fun _ H' => Q .non H', rt := Q } σ' H2, rt := Q } [some a, some (optV o)] H' := by
    intro H' s o ho
    subst ho
    refine ⟨_, rfl, _, rfl, ?_⟩
    cases e : wordInV a with
    | none => exact iteT fun C hC => q2 e C hC H' s
    | some i => exact iteF ⟨_, rfl, q1 i e H' s⟩
  cases th with
  | str x => exact iteT ⟨_, rfl, _, rfl, x, rfl, hz x rfl, fun H' s => fin H' s _ rfl⟩
  | non => exact iteF (fin H (Same.refl H) none rfl)
  | bl b => exact iteF (fin H (Same.refl H) none rfl)
  | int i => exact iteF (fin H (Same.refl H) none rfl)
  | lst h => exact iteF (fin H (Same.refl H) none rfl)
  | tup h => exact iteF (fin H (Same.refl H) none rfl)
  | dict h => exact iteF (fin H (Same.refl H) none rfl)
def gk_word_in_0_row {α : Type} : List α → List α → List α
  | [], [w0] => [w0]
  | _, _ => []
theorem gk_word_in_0_row_rel {vs zs : List V} {us ws : List Value} (r : Vals vs us) (q : Vals zs ws) : Vals (gk_word_in_0_row vs zs) (gk_word_in_0_row us ws) := by
  cases r with
  | cons _ _ => exact .nil
  | nil =>
    cases q with
    | nil => exact .nil
    | cons w0 qx =>
      cases qx with
      | cons _ _ => exact .nil
      | nil =>
        exact .cons w0 (.nil)
theorem cal_word_in_k0_row (T : Top K mg) : CalK P w K mg base 3 "word_in" ["row"] gk_word_in_0_row (S_word_in K mg) := by
  obtain ⟨f, fd, D⟩ := T.d_word_in
  refine calK_mk (g := @gk_word_in_0_row) D (fn_word_in T D) (fun r q => gk_word_in_0_row_rel r q) (fun _ _ _ _ _ _ us ws hl => ?_)
  match us, ws, hl with
  | [], [_], _ => rfl
theorem cal_word_in (T : Top K mg) : Cal P w K mg base 3 "word_in" [] (S_word_in K mg) := by
  obtain ⟨f, fd, D⟩ := T.d_word_in
  exact cal_mk D (fn_word_in T D)
/-! ### law -/
theorem xs_ints {ns : List Int} {z : Int} {lo hi : Option Int} : ∀ x ∈ [V.int z] ++ cutV (ns.map V.int) lo hi, ∃ i, x = V.int i := by
  intro x hx
  rcases List.mem_append.mp hx with e | e
  · exact ⟨z, List.mem_singleton.mp e⟩
  · obtain ⟨i, _, rfl⟩ := List.mem_map.mp (List.mem_of_mem_drop (List.mem_of_mem_take e))
    exact ⟨i, rfl⟩
theorem cut_len {xs : List V} {lo hi : Option Int} : (cutV xs lo hi).length ≤ xs.length := by
  unfold cutV
  rw [List.length_take, List.length_drop]
  omega
abbrev N_law : List Str := ["_law_script", "_law_cell", "_law_pen", "_law_sort", "_law_name", "_law_far", "_law_made", "_law_line"]
theorem sc_law : FnScope N_law ["_law_script"] (defScope s_law) := ⟨rfl, rfl, rfl, by decide +kernel, rfl, by decide +kernel, by decide +kernel⟩
def S_law (K : PySem.W.Frag) (mg : Str → Option Value) : Sp := S_of_law K
theorem fn_law (T : Top K mg) {f : Addr} {fd : FuncData} (D : DefAt K mg "law" s_law ["_law_script"] f fd) : FnG P w K mg base 6 f fd ["_law_script"] (S_law K mg) := by
  refine fn_of_body D.fn sc_law (fun vs H Q E h => by obtain ⟨_, rfl, _⟩ := h; rfl) (fun cdv A outer s H vs Q E hr h => ?_)
  obtain ⟨a, rfl, h⟩ := h
  have nd : N_law.Nodup := sc_law.nd
  refine ⟨_, pss_cons (ps_for (passes_of rfl) rfl (pi_list (pe_op (op_cat) (pe_lst (pa_cons (pe_c (cal__law_cell_at T) (hr.mono (by decide)) pass (pa_cons (pv 0) (pa_cons (pe_int) (pa_nil)))) (pa_nil))) (pe_slice (sl_list) (pv 0) (po_some (pe_int)) (po_some (pe_int))))) (pg_name (i := 1) nd rfl (Or.inl rfl)) (pss_cons (ps_set (i := 2) nd rfl (Or.inl rfl) (pe_c (cal__law_pen_of T) (hr.mono (by decide)) pass (pa_cons (pv 1) (pa_nil))))
  (pss_one (ps_for (passes_of rfl) rfl (pi_enum (by rfl) T.b_enumerate (pa_cons (pe_c0 (cal__law_names T) (hr.mono (by decide)) pass) (pa_nil))) (pg_tup rfl (pgs_cons (pg_name (i := 3) nd rfl (Or.inl rfl)) (pgs_cons (pg_name (i := 4) nd rfl (Or.inl rfl)) (pgs_nil)))) (pss_one (ps_for (passes_of rfl) rfl (pi_list (pe_lst (pa_cons (pe_int) (pa_cons (pe_int) (pa_cons (pe_int) (pa_cons (pe_int) (pa_cons (pe_int) (pa_cons (pe_int) (pa_cons (pe_c (cal__law_draw T) (hr.mono (by decide)) pass (pa_cons (pv 2) (pa_cons (pe_int) (pa_nil)))) (pa_cons (pe_c (cal__law_draw T) (hr.mono (by decide)) pass (pa_cons (pv 2) (pa_cons (pe_int) (pa_nil)))) (pa_nil))))))))))) (pg_name (i := 5) nd rfl (Or.inl rfl)) (pss_cons (ps_par (i := 6) (j := 7) (by rfl) nd rfl rfl (by decide) rfl rfl (pa_cons (pe_op (op_add) (pe_op (op_mul) (pv 3) (pe_int)) (pv 5)) (pa_cons (pe_op (op_add_str) (pe_op (op_add_str) (pv 4) (pe_str)) (pe_c (cal__law_figures T) (hr.mono (by decide)) pass (pa_cons (pv 5) (pa_nil)))) (pa_nil))) (by rfl))
  (pss_cons (ps_if (PW.pt (pw_or (pt_cmpR (op_ne) (pe_c (cal_row_of T) hr pass (pa_cons (pv 6) (pa_nil))) (pv 7) (nomark _)) (pw_or1 (pt_cmpR (op_ne) (pe_callB (G.call_reprF hr) (by rfl) T.b_repr (by decide +kernel) (pa_cons (pe_c (cal_word_in T) (hr.mono (by decide)) pass (pa_cons (pv 7) (pa_nil))) (pa_nil))) (pe_callB (G.call_reprF hr) (by rfl) T.b_repr (by decide +kernel) (pa_cons (pv 6) (pa_nil))) (nomark _))))) (pss_one (ps_ret (pe_bl))) (pss_nil))
  (pss_one (ps_if (PW.pt (pw_or (pt_cmpR (op_ne) (pe_ck0 (cal_row_of_k0_word T) hr pass (pk_cons (pv 6) (pk_nil))) (pv 7) (nomark _)) (pw_or1 (pt_cmpR (op_ne) (pe_ck0 (cal_word_in_k0_row T) (hr.mono (by decide)) pass (pk_cons (pv 7) (pk_nil))) (pv 6) (nomark _))))) (pss_one (ps_ret (pe_bl))) (pss_nil)))))))))))
  (pss_one (ps_ret (pe_bl))), ?_⟩
  obtain ⟨ns, s, rfl, hs, hl, _, q⟩ := h
  refine ⟨_, rfl, ⟨_, _, rfl, s, ns, 0, rfl, rfl, hs, Int.le_refl _, fun z => ?_⟩⟩
  refine ⟨by show 1 ≤ sizeLine; decide, fun l1 n1 => ⟨_, rfl, _, rfl, _, rfl, s, _, rfl, sqL_up hs n1, fun l2 n2 => ?_⟩⟩
  refine ⟨l1, l2, _, _, rfl, rfl, by walk_at "hp", upd_same, ?_, fun l n3 => ?_⟩
  · have e := cut_len (xs := ns.map V.int) (lo := some 1) (hi := some 8)
    rw [List.length_map] at e
    exact Nat.le_trans (Nat.add_le_add_left (Nat.le_trans e hl) 1) (by decide)
  have hints := xs_ints (ns := ns) (z := z) (lo := some 1) (hi := some 8)
  generalize hxs : [V.int z] ++ cutV (ns.map V.int) (some 1) (some 8) = xs at hints ⊢
  refine ⟨l, rfl, ⟨_, SqL.of upd_same⟩, for_list (K := K) (a := l) (xs := xs) (fun i σ H' => (∃ c p k n f m li, σ = [some (.ref s), c, p, k, n, f, m, li]) ∧ H' l = some (.lst xs))
    ⟨⟨_, _, _, _, _, _, _, rfl⟩, upd_same⟩ (fun i σ H' _ h => SqL.of h.2) ?_ ?_⟩
  · rintro i y σ H1 hi ⟨⟨c, p, k, n, f, m, li, rfl⟩, hl1⟩
    obtain ⟨cell, rfl⟩ := hints y (List.mem_of_getElem? hi)
    refine ⟨_, rfl, ⟨_, rfl, cell, rfl, fun pen x1 x2 x3 np => ?_⟩⟩
    have npl : l ≠ pen := ne_of_none hl1 np
    refine ⟨rfl, fun H2 a s2 na ha => ⟨a, _, rfl, SqL.of ha, for_it walk_enum (fun i σ H' => (∃ k n f m li, σ = [some (.ref s), some (.int cell), some (.ref pen), k, n, f, m, li]) ∧ H' l = some (.lst xs) ∧ H' a = some (.lst (KN.map V.str)) ∧ ∃ x y z, H' pen = some (.lst [.int x, .int y, .int z]))
      ⟨⟨_, _, _, _, _, rfl⟩, s2 _ _ (by walk_at "hp"), ha, _, _, _, s2 _ _ upd_same⟩ (fun i σ H' _ h => SqL.of h.2.2.1) ?_ ?_⟩⟩
    · rintro so v σ H3 H3' hso ⟨⟨k, n, f, m, li, rfl⟩, hl3, ha3, x, y, z, hp3⟩ ⟨t, v1, v2, rfl, nt, rfl, e1, e2⟩
      cases e1
      have hso16 : so < 16 := hso
      have hnm : v2 = V.str (KN.getD so Str.empty) := by
        replace e2 : (KN.map V.str)[so]? = some v2 := e2
        rw [List.getElem?_map, List.getElem?_eq_getElem (show so < KN.length from hso16)] at e2
        rw [List.getD_eq_getElem?_getD, List.getElem?_eq_getElem (show so < KN.length from hso16)]
        exact (Option.some.inj e2).symm
      subst hnm
      refine ⟨t, _, rfl, SqT.of upd_same, rfl, _, _, rfl, _, _, rfl, rfl, ?_⟩
      have hap : a ≠ pen := by
        intro e
        rw [e, hp3] at ha3
        cases ha3
      have hp3' : upd H3 t (.tup [.int so, .str (KN.getD so Str.empty)]) pen = some (.lst [.int x, .int y, .int z]) := by walk_at "hp"
      refine ⟨_, rfl, ⟨_, _, rfl, pen, x, y, z, 4096, rfl, rfl, hp3', by decide, by decide, fun x' y' z' r r0 r1 => ?_⟩⟩
      refine ⟨_, rfl, ⟨_, _, rfl, pen, _, _, _, 200, rfl, rfl, upd_same, by decide, by decide, fun x2 y2 z2 r' r0' r1' => ?_⟩⟩
      have hl4 : upd (upd (upd H3 t (.tup [.int so, .str (KN.getD so Str.empty)])) pen (.lst [.int x', .int y', .int z'])) pen (.lst [.int x2, .int y2, .int z2]) l = some (.lst xs) := by walk_at "hp"
      have ha4 : upd (upd (upd H3 t (.tup [.int so, .str (KN.getD so Str.empty)])) pen (.lst [.int x', .int y', .int z'])) pen (.lst [.int x2, .int y2, .int z2]) a = some (.lst (KN.map V.str)) := by walk_at "hp"
      have hp4 : upd (upd (upd H3 t (.tup [.int so, .str (KN.getD so Str.empty)])) pen (.lst [.int x', .int y', .int z'])) pen (.lst [.int x2, .int y2, .int z2]) pen = some (.lst [.int x2, .int y2, .int z2]) := upd_same
      generalize upd (upd (upd H3 t (.tup [.int so, .str (KN.getD so Str.empty)])) pen (.lst [.int x', .int y', .int z'])) pen (.lst [.int x2, .int y2, .int z2]) = H4 at hl4 ha4 hp4 ⊢
      refine ⟨by show 8 ≤ sizeLine; decide, fun b nb => ?_⟩
      have hfar : ∀ v ∈ [V.int 0, V.int 9, V.int 10, V.int 999, V.int 1000, V.int 4095, V.int r, V.int r'], ∃ j : Int, v = V.int j ∧ 0 ≤ j ∧ j ≤ 4095 := by
        intro v hv
        simp only [List.mem_cons, List.not_mem_nil, or_false] at hv
        rcases hv with rfl | rfl | rfl | rfl | rfl | rfl | rfl | rfl
        all_goals exact ⟨_, rfl, by omega, by omega⟩
      generalize [V.int 0, V.int 9, V.int 10, V.int 999, V.int 1000, V.int 4095, V.int r, V.int r'] = fs at hfar ⊢
      refine ⟨b, rfl, ⟨_, SqL.of upd_same⟩, for_list (K := K) (a := b) (xs := fs) (fun i σ H' => (∃ f m li, σ = [some (.ref s), some (.int cell), some (.ref pen), some (.int so), some (.str (KN.getD so Str.empty)), f, m, li]) ∧ H' b = some (.lst fs) ∧ H' l = some (.lst xs) ∧ H' a = some (.lst (KN.map V.str)) ∧ H' pen = some (.lst [.int x2, .int y2, .int z2]))
        ⟨⟨_, _, _, rfl⟩, upd_same, by walk_at "hp", by walk_at "hp", by walk_at "hp"⟩ (fun i σ H' _ h => SqL.of h.2.1) ?_ ?_⟩
      · rintro i v σ H5 hi5 ⟨⟨f, m, li, rfl⟩, hb5, hl5, ha5, hp5⟩
        obtain ⟨far, rfl, f0, f1⟩ := hfar v (List.mem_of_getElem? hi5)
        have hm : (0 : Int) ≤ (so : Int) * 4096 + far ∧ (so : Int) * 4096 + far ≤ 65535 := by omega
        have hline : KN.getD so Str.empty ++ " " ++ Str.ofString (toString far) = rowT ((so : Int) * 4096 + far) := by
          rw [rowT_eq hm.1 hm.2, show (((so : Int) * 4096 + far) / 4096).toNat = so by omega, show (((((so : Int) * 4096 + far) % 4096).toNat : Nat) : Int) = far by omega]
        have hll : (rowT ((so : Int) * 4096 + far)).length ≤ 12 := rowT_len hm.1 hm.2
        have hl0 : (KN.getD so Str.empty ++ " " ++ Str.ofString (toString far)).length ≤ 12 := by rw [hline]; exact hll
        rw [Str.length_append, Str.length_append] at hl0
        have sz : (12 : Nat) ≤ sizeLine := by decide
        refine ⟨_, rfl, _, _, rfl, rfl, .inr ⟨by decide, by decide⟩, _, rfl, _, _, rfl, rfl, _, rfl, _, _, rfl, rfl, by omega, _, rfl, _, rfl, far, rfl, f0, f1, _, _, rfl, rfl, ?_, _, _, rfl, ?_⟩
        · rw [Str.length_append]
          omega
        dsimp only
        rw [hline]
        have fi : fine (.int ((so : Int) * 4096 + far)) = true ∧ (PyData.int ((so : Int) * 4096 + far)).depth ≤ 60 ∧ (PyData.int ((so : Int) * 4096 + far)).bulk ≤ 2 ^ 20 :=
          ⟨by simp only [fine, decide_eq_true_eq]; omega, Nat.zero_le _, Nat.zero_le _⟩
        have hw : wordInV (.str (rowT ((so : Int) * 4096 + far))) = some ((so : Int) * 4096 + far) := rowIn_rowT hm.1 hm.2
        refine ⟨_, rfl, _, rfl, .inl ⟨_, rfl, hm.1, hm.2, _, rfl, rfl, _, rfl, ?_⟩⟩
        rw [decide_eq_true rfl]
        refine iteF ⟨_, rfl, _, rfl, _, .str _, fun x e => (by cases e; exact Nat.le_trans hll sz), fun w hw2 H6 s6 => ?_, fun hn => absurd (hw.symm.trans hn) (by simp)⟩
        rw [hw] at hw2
        cases hw2
        refine ⟨_, _, rfl, .int _, fi, _, rfl, _, _, rfl, .int _, fi, rfl, _, rfl, ?_⟩
        refine iteNS (by rfl) ?_
        refine ⟨_, rfl, _, rfl, .inl ⟨_, rfl, hm.1, hm.2, _, rfl, rfl, _, rfl, ?_⟩⟩
        rw [decide_eq_true rfl]
        refine iteF ⟨_, rfl, _, rfl, _, .str _, fun x e => (by cases e; exact Nat.le_trans hll sz), fun w hw2 H7 s7 => ?_, fun hn => absurd (hw.symm.trans hn) (by simp)⟩
        rw [hw] at hw2
        cases hw2
        refine ⟨_, rfl, rfl, _, rfl, ?_⟩
        exact iteNS (by rfl) ⟨⟨_, _, _, rfl⟩, s7 _ _ (s6 _ _ hb5), s7 _ _ (s6 _ _ hl5), s7 _ _ (s6 _ _ ha5), s7 _ _ (s6 _ _ hp5)⟩
      · rintro σ H5 ⟨⟨f, m, li, rfl⟩, hb5, hl5, ha5, hp5⟩
        exact ⟨⟨_, _, _, _, _, rfl⟩, hl5, ha5, _, _, _, hp5⟩
    · rintro σ H2 ⟨⟨k, n, f, m, li, rfl⟩, hl2, _⟩
      exact ⟨⟨_, _, _, _, _, _, _, rfl⟩, hl2⟩
  · rintro σ H' _
    exact q _
end
theorem walk {l : PySem.W.OpenLaw} {q : Program} {loose : List Str} {XP : (Str → Option Value) → Heap → Prop} {YP : World → Heap → Prop} {d : DefRec} {K : Params → PySem.W.Frag} (hn : l.most = some 63) (hdf : d.params.defaults = [])
    (hY : ∀ (w : World) (h : Heap), YP w h → (K w.params).In h) (hd : d.name = "law")
    (F : ∀ (w : World) (mg : Str → Option Value) (h : Heap), (K w.params).In h → h.Ns mainGlobals mg → Top (K w.params) mg) :
    PySem.W.WalkO q loose XP YP l.row.toRowW d [] (fun f vs => PySem.call f vs) :=
  law_walk (x := "_law_script") (k := 6) hn hdf ⟨⟨rfl, by decide, by decide⟩, rfl⟩ hY fun w mg fa h KX g hm => by
    have T := F w mg h KX g
    obtain ⟨f, fd, D⟩ := T.d_law
    rw [hd, D.mg] at hm
    cases hm
    refine ⟨fd, fun s u => ?_, fun base _ _ => fn_law T D⟩
    obtain ⟨oc, od, kV, doc, pm, an, cdv, ct, osl, rfl, _⟩ := D.fn.ex
    exact .of_eq rfl
end G
open PySem PySem.W PyProof.Rows in
set_option maxRecDepth 100000 in
set_option maxHeartbeats 0 in
theorem PySem.Challenge.cw_seedmill_k03_rows_told_holds : PySem.Challenge.rw_seedmill_k03_rows_told.Holds := by
  w_on; o_law; k_head; (case hw => w_witness2)
  k_fill
  refine G.walk (l := PySem.Challenge.rw_seedmill_k03_rows_told) rfl rfl (fun w h Y => PySem.W.kIn_of Y) rfl ?F
  case F =>
    intro w mg h KX g
    refine' ⟨G.defAt_mk KX g ?a__law_pen_of ?l__law_pen_of ?c__law_pen_of ?k__law_pen_of (fun _ _ _ _ _ _ us hl => match us, hl with | [_], _ => rfl),
      G.defAt_mk KX g ?a__law_cell_at ?l__law_cell_at ?c__law_cell_at ?k__law_cell_at (fun _ _ _ _ _ _ us hl => match us, hl with | [_, _], _ => rfl),
      G.defAt_mk KX g ?a__law_names ?l__law_names ?c__law_names ?k__law_names (fun _ _ _ _ _ _ us hl => match us, hl with | [], _ => rfl),
      G.defAt_mk KX g ?a__law_next ?l__law_next ?c__law_next ?k__law_next (fun _ _ _ _ _ _ us hl => match us, hl with | [_], _ => rfl),
      G.defAt_mk KX g ?a__law_draw ?l__law_draw ?c__law_draw ?k__law_draw (fun _ _ _ _ _ _ us hl => match us, hl with | [_, _], _ => rfl),
      G.defAt_mk KX g ?a__law_figures ?l__law_figures ?c__law_figures ?k__law_figures (fun _ _ _ _ _ _ us hl => match us, hl with | [_], _ => rfl),
      G.defAt_mk KX g ?a_is_whole ?l_is_whole ?c_is_whole ?k_is_whole (fun _ _ _ _ _ _ us hl => match us, hl with | [_], _ => rfl),
      G.defAt_mk KX g ?a_is_between ?l_is_between ?c_is_between ?k_is_between (fun _ _ _ _ _ _ us hl => match us, hl with | [_, _, _], _ => rfl),
      G.defAt_mk KX g ?a_is_word ?l_is_word ?c_is_word ?k_is_word (fun _ _ _ _ _ _ us hl => match us, hl with | [_], _ => rfl),
      G.defAt_mk KX g ?a_need_word ?l_need_word ?c_need_word ?k_need_word (fun _ _ _ _ _ _ us hl => match us, hl with | [_], _ => rfl),
      G.defAt_mk KX g ?a_address_by ?l_address_by ?c_address_by ?k_address_by (fun _ _ _ _ _ _ us hl => match us, hl with | [_], _ => rfl),
      G.defAt_mk KX g ?a_kind_by ?l_kind_by ?c_kind_by ?k_kind_by (fun _ _ _ _ _ _ us hl => match us, hl with | [_], _ => rfl),
      G.defAt_mk KX g ?a_row_by ?l_row_by ?c_row_by ?k_row_by (fun _ _ _ _ _ _ us hl => match us, hl with | [_], _ => rfl),
      G.defAt_mk KX g ?a_row_of ?l_row_of ?c_row_of ?k_row_of (fun _ _ _ _ _ _ us hl => match us, hl with | [_], _ => rfl),
      G.defAt_mk KX g ?a_figures_in ?l_figures_in ?c_figures_in ?k_figures_in (fun _ _ _ _ _ _ us hl => match us, hl with | [_, _], _ => rfl),
      G.defAt_mk KX g ?a_word_by ?l_word_by ?c_word_by ?k_word_by (fun _ _ _ _ _ _ us hl => match us, hl with | [_, _], _ => rfl),
      G.defAt_mk KX g ?a_row_in ?l_row_in ?c_row_in ?k_row_in (fun _ _ _ _ _ _ us hl => match us, hl with | [_], _ => rfl),
      G.defAt_mk KX g ?a_word_in ?l_word_in ?c_word_in ?k_word_in (fun _ _ _ _ _ _ us hl => match us, hl with | [_], _ => rfl),
      G.defAt_mk KX g ?a_law ?l_law ?c_law ?k_law (fun _ _ _ _ _ _ us hl => match us, hl with | [_], _ => rfl),
      PySem.W.mg_none_of KX g ?b_all,
      PySem.W.mg_none_of KX g ?b_bool,
      PySem.W.mg_none_of KX g ?b_enumerate,
      PySem.W.mg_none_of KX g ?b_int,
      PySem.W.mg_none_of KX g ?b_isinstance,
      PySem.W.mg_none_of KX g ?b_len,
      PySem.W.mg_none_of KX g ?b_max,
      PySem.W.mg_none_of KX g ?b_range,
      PySem.W.mg_none_of KX g ?b_repr,
      PySem.W.mg_none_of KX g ?b_str,
      G.strAt_mk KX g ?c_FIGURES,
      ⟨_, PySem.W.mg_of KX g ?c_KINDS, G.sqTK_mk ?l_KINDS ?v_KINDS⟩,
      G.intAt_mk KX g ?c_MOST_ADDRESS,
      G.intAt_mk KX g ?c_MOST_FIGURES,
      G.intAt_mk KX g ?c_MOST_WORD,
      G.intAt_mk KX g ?c_SPAN,
      G.excAt_mk KX g ?a_NoRow ?x_NoRow ?kp_NoRow ?b_NoRow ?t_NoRow ?i_NoRow ?s_NoRow,
      G.excAt_mk KX g ?a_NoWord ?x_NoWord ?kp_NoWord ?b_NoWord ?t_NoWord ?i_NoWord ?s_NoWord⟩
    (case a__law_pen_of => k_is)
    (case l__law_pen_of => k_is)
    (case c__law_pen_of => k_is)
    (case k__law_pen_of => k_is)
    (case a__law_cell_at => k_is)
    (case l__law_cell_at => k_is)
    (case c__law_cell_at => k_is)
    (case k__law_cell_at => k_is)
    (case a__law_names => k_is)
    (case l__law_names => k_is)
    (case c__law_names => k_is)
    (case k__law_names => k_is)
    (case a__law_next => k_is)
    (case l__law_next => k_is)
    (case c__law_next => k_is)
    (case k__law_next => k_is)
    (case a__law_draw => k_is)
    (case l__law_draw => k_is)
    (case c__law_draw => k_is)
    (case k__law_draw => k_is)
    (case a__law_figures => k_is)
    (case l__law_figures => k_is)
    (case c__law_figures => k_is)
    (case k__law_figures => k_is)
    (case a_is_whole => k_is)
    (case l_is_whole => k_is)
    (case c_is_whole => k_is)
    (case k_is_whole => k_is)
    (case a_is_between => k_is)
    (case l_is_between => k_is)
    (case c_is_between => k_is)
    (case k_is_between => k_is)
    (case a_is_word => k_is)
    (case l_is_word => k_is)
    (case c_is_word => k_is)
    (case k_is_word => k_is)
    (case a_need_word => k_is)
    (case l_need_word => k_is)
    (case c_need_word => k_is)
    (case k_need_word => k_is)
    (case a_address_by => k_is)
    (case l_address_by => k_is)
    (case c_address_by => k_is)
    (case k_address_by => k_is)
    (case a_kind_by => k_is)
    (case l_kind_by => k_is)
    (case c_kind_by => k_is)
    (case k_kind_by => k_is)
    (case a_row_by => k_is)
    (case l_row_by => k_is)
    (case c_row_by => k_is)
    (case k_row_by => k_is)
    (case a_row_of => k_is)
    (case l_row_of => k_is)
    (case c_row_of => k_is)
    (case k_row_of => k_is)
    (case a_figures_in => k_is)
    (case l_figures_in => k_is)
    (case c_figures_in => k_is)
    (case k_figures_in => k_is)
    (case a_word_by => k_is)
    (case l_word_by => k_is)
    (case c_word_by => k_is)
    (case k_word_by => k_is)
    (case a_row_in => k_is)
    (case l_row_in => k_is)
    (case c_row_in => k_is)
    (case k_row_in => k_is)
    (case a_word_in => k_is)
    (case l_word_in => k_is)
    (case c_word_in => k_is)
    (case k_word_in => k_is)
    (case a_law => k_is)
    (case l_law => k_is)
    (case c_law => k_is)
    (case k_law => k_is)
    (case b_all => k_is)
    (case b_bool => k_is)
    (case b_enumerate => k_is)
    (case b_int => k_is)
    (case b_isinstance => k_is)
    (case b_len => k_is)
    (case b_max => k_is)
    (case b_range => k_is)
    (case b_repr => k_is)
    (case b_str => k_is)
    (case c_FIGURES => k_is)
    (case c_KINDS => k_is)
    (case l_KINDS => k_is)
    (case v_KINDS => repeat (first | exact .nil | refine .cons ?_ ?_ | exact ⟨_, rfl⟩ | rfl))
    (case c_MOST_ADDRESS => k_is)
    (case c_MOST_FIGURES => k_is)
    (case c_MOST_WORD => k_is)
    (case c_SPAN => k_is)
    (case a_NoRow => k_is)
    (case kp_NoRow => k_is)
    (case b_NoRow => k_is)
    (case t_NoRow => k_is)
    (case i_NoRow => k_is)
    (case s_NoRow => k_is)
    (case x_NoRow => k_exc)
    (case a_NoWord => k_is)
    (case kp_NoWord => k_is)
    (case b_NoWord => k_is)
    (case t_NoWord => k_is)
    (case i_NoWord => k_is)
    (case s_NoWord => k_is)
    (case x_NoWord => k_exc)
#print axioms PySem.Challenge.cw_seedmill_k03_rows_told_holds
