import PyProof.Rows.All
import Wide.All
import OpenK.AllK
import Wide.FinOn
import HandS.ForMost
import HandS.ForExc
import HandS.EndBits
import HandS.IsInst
import HandS.Defaults
import HandS.More
import HandS.FStr
import HandS.Walk
import HandS.Strs
import KE.GoesEnum
import KE.GoesMore
import PySem.Challenge.RW_seedmill_k92_images_listed
set_option Elab.async false
set_option linter.all false
set_option maxRecDepth 100000
set_option maxHeartbeats 4000000
namespace G
open PySem PySem.Spec PyProof.Rows L2

/-! ### shapes of promises: so many arguments -/
abbrev sp0 (φ : Hp → VK → XK → Prop) : Sp := fun vs H Q E => vs = [] ∧ φ H Q E
abbrev sp1 (φ : V → Hp → VK → XK → Prop) : Sp := fun vs H Q E => ∃ a, vs = [a] ∧ φ a H Q E
abbrev sp2 (φ : V → V → Hp → VK → XK → Prop) : Sp := fun vs H Q E => ∃ a b, vs = [a, b] ∧ φ a b H Q E
abbrev sp3 (φ : V → V → V → Hp → VK → XK → Prop) : Sp := fun vs H Q E => ∃ a b c, vs = [a, b, c] ∧ φ a b c H Q E
abbrev sp4 (φ : V → V → V → V → Hp → VK → XK → Prop) : Sp := fun vs H Q E => ∃ a b c d, vs = [a, b, c, d] ∧ φ a b c d H Q E

/-! ### room, and nothing that is being shown: repr needs it -/
structure Rm (k : Nat) (A : Around) : Prop where
  r : Room k A
  g : A.guards = some []
theorem Rm.mono {j k : Nat} {A : Around} (h : Rm k A) (l : j ≤ k) : Rm j A := ⟨h.r.mono l, h.g⟩
theorem Rm.deeper {k : Nat} {A : Around} (h : Rm (k + 1) A) (e : Env) : Rm k (A.deeper e) := ⟨h.r.deeper e, h.g⟩
theorem Rm.make {k : Nat} {A : Around} (h : Rm (k + 1) A) (C : Addr) (us : List Value) (kw : List (Str × Value)) : Rm k (A.under (.builtin "type.__call__" ⟨.ref C :: us, kw⟩)) :=
  ⟨h.r.make C us kw, by
    have e : (Code.builtin "type.__call__" ⟨.ref C :: us, kw⟩).guards = [] := by
      unfold Code.guards
      rw [if_neg (by simp [Code.isGuard, guardIds])]
    have e2 : (A.under (.builtin "type.__call__" ⟨.ref C :: us, kw⟩)).guards = pushGuards (Code.builtin "type.__call__" ⟨.ref C :: us, kw⟩).guards A.guards := rfl
    rw [e2, e]
    exact h.g⟩

/-- what a def may ask of where it runs: room; room and nothing that is being shown -/
structure RoomLike (ρ : Nat → Around → Prop) : Prop where
  room : ∀ {k A}, ρ k A → Room k A
  mono : ∀ {j k A}, ρ k A → j ≤ k → ρ j A
  deeper : ∀ {k A} (e : Env), ρ (k + 1) A → ρ k (A.deeper e)
  make : ∀ {k A} (C : Addr) (us : List Value) (kw : List (Str × Value)), ρ (k + 1) A → ρ k (A.under (.builtin "type.__call__" ⟨.ref C :: us, kw⟩))
theorem rl_rm : RoomLike Rm := ⟨fun h => h.r, fun h l => h.mono l, fun e h => h.deeper e, fun C us kw h => h.make C us kw⟩
theorem rl_room : RoomLike Room := ⟨fun h => h, fun h l => h.mono l, fun e h => h.deeper e, fun C us kw h => h.make C us kw⟩
/-- a def keeps its promise, wherever there is such room -/
structure FnG (ρ : Nat → Around → Prop) (P : Program) (w : World) (K : PySem.W.Frag) (mg : Str → Option Value) (base : Heap) (k : Nat) (f : Addr) (fd : FuncData) (ps : List Str) (sp : Sp) : Prop where
  len : ∀ vs H Q E, sp vs H Q E → vs.length = ps.length
  run : ∀ (A : Around) (fr : List Env) (s : Shared) (H : Hp) (ag : Args) (us : List Value) (vs : List V) (Q : VK) (E : XK), ρ k A → Env0 P w K mg base A fr s H →
    BindsTo s fd ag (ps.zip us) → Vals vs us → sp vs H Q E → codeAny (model P w) A (.call (.ref f) ag) (CR (L2.CX P w) fr P w H s Q E) s
section
variable {ρ : Nat → Around → Prop} {P : Program} {w : World} {K : PySem.W.Frag} {mg : Str → Option Value} {base : Heap} {k : Nat} {f : Addr} {fd : FuncData} {ps : List Str} {sp sp' : Sp}
theorem FnG.mono {j : Nat} (R : RoomLike ρ) (F : FnG ρ P w K mg base j f fd ps sp) (h : j ≤ k) : FnG ρ P w K mg base k f fd ps sp :=
  ⟨F.len, fun A fr s H ag us vs Q E hr => F.run A fr s H ag us vs Q E (R.mono hr h)⟩
theorem FnG.imp (F : FnG ρ P w K mg base k f fd ps sp) (h : ∀ vs H Q E, sp' vs H Q E → sp vs H Q E) : FnG ρ P w K mg base k f fd ps sp' :=
  ⟨fun vs H Q E q => F.len vs H Q E (h _ _ _ _ q), fun A fr s H ag us vs Q E hr e b v q => F.run A fr s H ag us vs Q E hr e b v (h _ _ _ _ q)⟩
theorem FnG.ok (F : FnG Room P w K mg base k f fd ps sp) : FnOk P w K mg base (L2.CX P w) k f fd ps sp := ⟨F.len, F.run⟩
/-- by its body -/
theorem FnG.body (R : RoomLike ρ) {x q : Str} {pr : Arguments} {bd : List Stmt} {sc : Scope} {dV kV doc pm cdv ct oc : Value} {an od : Option Addr} {sl : Array (Option Value)} {N : List Str}
    (lk : K.lookup f = some ⟨oc, od, .func (PySem.W.fnOf x q pr bd sc dV kV doc pm an cdv ct), sl⟩) (hc : PySem.W.codeIn K cdv q = true) (S : FnScope N ps sc)
    (len : ∀ vs H Q E, sp vs H Q E → vs.length = ps.length)
    (hb : ∀ (A : Around) (fr : List Env) (s : Shared) (H : Hp) (vs : List V) (Q : VK) (E : XK), ρ k (A.deeper (envOfC q sc s.heap.objs.size f cdv)) → sp vs H Q E →
      ∃ t, PSs (cxOf (L2.CX P w) P w K mg base N q sc f cdv A fr s H E) bd t ∧ t { nx := fun _ H' => Q .non H', rt := Q } (start N vs) H) :
    FnG ρ P w K mg base (k + 1) f (PySem.W.fnOf x q pr bd sc dV kV doc pm an cdv ct) ps sp := by
  refine ⟨len, ?_⟩
  intro A fr s H ag us vs Q E hr e0 bn rv hsp
  have el := len _ _ _ _ hsp
  have up : ∀ b o, base.get? b = some o → s.heap.get? b = some o := fun b o e => (e0.bs b o e).1
  have kin : K.In s.heap := e0.mod.kin.keeps up
  have kinds : ∀ y ∈ ps.zip us, sc.names.lookup y.1 = some .local ∨ (sc.names.lookup y.1 = some .cell ∧ ((cellsFrom (s.heap.objs.size + 1) sc.names []).lookup y.1).isSome = true) := by
    rintro ⟨n, v⟩ hy
    exact (S.par n (List.of_mem_zip hy).1).imp id fun z => ⟨z, PySem.W.cellsFrom_some _ _ _ (.inl z)⟩
  refine codeAny_call_function (R.room hr).depth (kin _ _ lk) rfl S.co S.gen rfl (PySem.W.codeRec_of kin hc) (bn _ _ _ _ ?_)
  refine wpAny_newFunctionEnv_cells S.kind kinds fun env he s1 ic => ?_
  subst he
  refine ⟨(e0.mod.nolimit.keeps up).keeps ic.toInCall.keep, codeAny_func ?_⟩
  obtain ⟨t, ht, hq⟩ := hb A fr s H vs Q E (R.deeper _ hr) hsp
  have I0 : Inv (cxOf (L2.CX P w) P w K mg base N q sc f cdv A fr s H E) [] (start N vs) H s1 := inv_start S (R.room hr).hd e0 el rv ic
  refine wpAny_mono (ht.run [] s1 _ H _ I0 hq) (fun fl s' hs => ?_) fun _ _ z => z
  cases fl with
  | ret u =>
    obtain ⟨v, _, H', J, r1, q1⟩ := hs
    exact ⟨v, H', J.os, J.bare, J.base, J.hok, r1, q1⟩
  | next =>
    obtain ⟨_, H', J, q1⟩ := hs
    exact ⟨V.non, H', J.os, J.bare, J.base, J.hok, rfl, q1⟩
  | brk => exact hs.elim fun _ z => z.elim fun _ y => y.2.elim
  | cont => exact hs.elim fun _ z => z.elim fun _ y => y.2.elim
end

/-! ### calls -/
section
variable {ρ : Nat → Around → Prop} {X : Cx} {k : Nat} {f C : Addr} {fd : FuncData} {ps ks : List Str} {sp : Sp} {dvs : List V} {ds : List Value} {E : XK}
/-- what a callee's end is to the caller -/
theorem end_call {pins : List (Addr × Obj)} {σ : L2.St} {H : Hp} {s s' : Shared} {Q : VK} {R : Result} (I : Inv X pins σ H s) (hx : Passes (L2.CX X.prog X.w) X E)
    (h : CR (L2.CX X.prog X.w) X.stack X.prog X.w H s Q E R s') : match R with
      | .ok (.ret u) => EP X pins σ Q u s'
      | .ok _ => False
      | .error e => X.xe e s' := by
  cases R with
  | error e => exact hx _ _ _ _ _ _ I h
  | ok fl =>
    cases fl with
    | ret u => exact I.after h
    | next => exact h
    | brk => exact h
    | cont => exact h
theorem run_g {pins : List (Addr × Obj)} {σ : L2.St} {H : Hp} {s : Shared} {Q : VK} {us : List Value} {vs : List V} (F : FnG ρ X.prog X.w X.K X.mg X.base k f fd ps sp) (hr : ρ k X.A)
    (hb : Binds X.K fd ps ds) (hd : Vals dvs ds) (hx : Passes (L2.CX X.prog X.w) X E) (I : Inv X pins σ H s) (rv : Vals vs us) (h : sp (vs ++ dvs) H Q E) :
    wpAny (model X.prog X.w) X.A (call (.ref f) us) (EP X pins σ Q) X.xe s := by
  have r2 := rv.append hd
  have l2 := r2.length.symm.trans (F.len _ _ _ _ h)
  refine wpAny_call (codeAny_mono (F.run X.A X.stack s H ⟨us, []⟩ _ _ Q E hr I.env0 (hb s us I.kIn l2) r2 h) ?_)
  intro R s' z
  have e := end_call I hx z
  cases R with
  | error _ => exact e
  | ok fl => cases fl <;> exact e
end

/-! ### a def of the top, as it stands; as it is called -/
structure DefAt (K : PySem.W.Frag) (mg : Str → Option Value) (x : Str) (st : Stmt) (ps : List Str) (f : Addr) (fd : FuncData) : Prop where
  fn : Fun K x x st f fd
  mg : mg x = some (.ref f)
  bd : Binds K fd ps []
abbrev TopDef (K : PySem.W.Frag) (mg : Str → Option Value) (x : Str) (st : Stmt) (ps : List Str) : Prop := ∃ f fd, DefAt K mg x st ps f fd
/-- a def as its callers know it; dvs: what is left out at the end -/
structure Cal (ρ : Nat → Around → Prop) (P : Program) (w : World) (K : PySem.W.Frag) (mg : Str → Option Value) (base : Heap) (k : Nat) (x : Str) (dvs : List V) (sp : Sp) : Prop where
  ex : ∃ f fd ps ds, FnG ρ P w K mg base k f fd ps sp ∧ mg x = some (.ref f) ∧ PySem.W.keepIn K (.ref f) = true ∧ Vals dvs ds ∧ Binds K fd ps ds
section
variable {ρ : Nat → Around → Prop} {P : Program} {w : World} {K : PySem.W.Frag} {mg : Str → Option Value} {base : Heap} {k : Nat} {x : Str} {ps : List Str} {dvs : List V} {sp sp' : Sp} {f : Addr} {fd : FuncData}
theorem Cal.mono {j : Nat} (R : RoomLike ρ) (C : Cal ρ P w K mg base j x dvs sp) (h : j ≤ k) : Cal ρ P w K mg base k x dvs sp := by
  obtain ⟨f, fd, ps, ds, F, z⟩ := C.ex
  exact ⟨f, fd, ps, ds, F.mono R h, z⟩
theorem Cal.imp (C : Cal ρ P w K mg base k x dvs sp) (h : ∀ vs H Q E, sp' vs H Q E → sp vs H Q E) : Cal ρ P w K mg base k x dvs sp' := by
  obtain ⟨f, fd, ps, ds, F, z⟩ := C.ex
  exact ⟨f, fd, ps, ds, F.imp h, z⟩
/-- a def's promise, by its body -/
theorem fn_of_body (R : RoomLike ρ) {q : Str} {st : Stmt} {N : List Str} (D : Fun K x q st f fd) (S : FnScope N ps (defScope st)) (len : ∀ vs H Q E, sp vs H Q E → vs.length = ps.length)
    (hbody : ∀ (cdv : Value) (A : Around) (outer : List Env) (s : Shared) (H : Hp) (vs : List V) (Q : VK) (E : XK), ρ k (A.deeper (envOfC q (defScope st) s.heap.objs.size f cdv)) → sp vs H Q E →
      ∃ t, PSs (cxOf (L2.CX P w) P w K mg base N q (defScope st) f cdv A outer s H E) (defBody st) t ∧ t { nx := fun _ H' => Q .non H', rt := Q } (start N vs) H) : FnG ρ P w K mg base (k + 1) f fd ps sp := by
  obtain ⟨oc, od, kV, doc, pm, an, cdv, ct, osl, rfl, lk, hcd⟩ := D.ex
  exact FnG.body R lk hcd S len (hbody cdv)
theorem cal_mk {st : Stmt} (D : DefAt K mg x st ps f fd) (F : FnG ρ P w K mg base k f fd ps sp) : Cal ρ P w K mg base k x [] sp := ⟨f, fd, ps, [], F, D.mg, D.fn.kp, .nil, D.bd⟩
/-- what is raised by a callee is the def's own -/
theorem pass {N : List Str} {q : Str} {sc : Scope} {f : Addr} {cd : Value} {A : Around} {outer : List Env} {s : Shared} {H : Hp} {E : XK} : Passes (L2.CX P w) (cxOf (L2.CX P w) P w K mg base N q sc f cd A outer s H E) E :=
  passes_call (takes_of rfl rfl rfl rfl) fun _ _ _ _ h => h
theorem defAt_mk {h : Heap} {st : Stmt} {f : Addr} {od an : Option Addr} {sl : Array (Option Value)} {oc kV dc pm cd ct : Value} (X : K.In h) (g : h.Ns mainGlobals mg)
    (a : PySem.W.nsIn K mainGlobals x = some (some (.ref f))) (l : K.lookup f = some ⟨oc, od, .func (PySem.W.fnOf x x (defArgs st) (defBody st) (defScope st) .none kV dc pm an cd ct), sl⟩)
    (c : PySem.W.codeIn K cd x = true) (kp : PySem.W.keepIn K (.ref f) = true)
    (b : ∀ (kV doc pm : Value) (an : Option Addr) (cdv ct : Value) (us : List Value), us.length = ps.length → bindArgs (PySem.W.fnOf x x (defArgs st) (defBody st) (defScope st) .none kV doc pm an cdv ct) ⟨us, []⟩ = pure (ps.zip us)) :
    TopDef K mg x st ps :=
  ⟨f, _, fun_mk (st := st) l c kp, PySem.W.mg_of X g a, (fun_mk (st := st) l c kp).binds b⟩
end
section
variable {ρ : Nat → Around → Prop} {X : Cx} {k : Nat} {x : Str} {dvs : List V} {sp : Sp} {E : XK} {e : Expr} {es : List Expr} {t : TA} {p pos : Pos}
/-- f(e, ..) -/
theorem pe_c (C : Cal ρ X.prog X.w X.K X.mg X.base k x dvs sp) (hr : ρ k X.A) (hx : Passes (L2.CX X.prog X.w) X E) (ha : PA X (e :: es) t) (hg : Gl X x := by rfl) (hdb : (x == ("__debug__" : Str)) = false := by decide)
    (hs : starEach (e :: es) X.env = (false, eval e X.env) :: starEach es X.env := by rfl) (hn : (backTo pos (starEach es X.env)).any (·.1) = false := by rfl) : PE X (.Call (.Name x p) (e :: es) [] pos) (tCall sp dvs E t) := by
  obtain ⟨f, fd, ps, ds, F, m, kp, hd, b⟩ := C.ex
  refine ⟨fun pins s σ H Q I h => wpAny_Call_Name_kw (ld_glob I hg m ?_ hdb)⟩
  exact PySem.W.callWith_K (h₀ := X.base) I.ok.mod.kin kp (thn (ha.run pos pins s σ H _ I h) fun us s1 ⟨vs, H1, I1, rv, q⟩ => ⟨I1.kIn, run_g F hr b hd hx I1 rv q⟩) hs hn
theorem pe_c0 (C : Cal ρ X.prog X.w X.K X.mg X.base k x dvs sp) (hr : ρ k X.A) (hx : Passes (L2.CX X.prog X.w) X E) (hg : Gl X x := by rfl) (hdb : (x == ("__debug__" : Str)) = false := by decide) :
    PE X (.Call (.Name x p) [] [] pos) (tCall sp dvs E tNil) := by
  obtain ⟨f, fd, ps, ds, F, m, kp, hd, b⟩ := C.ex
  exact ⟨fun pins s σ H Q I h => wpAny_Call_Name_kw (ld_glob I hg m (PySem.W.callWith_K0 I.kIn kp (run_g (us := []) F hr b hd hx I .nil h)) hdb)⟩
/-- a module's int -/
theorem pe_gi {i : Int} (h : ∃ t, X.mg x = some (.int i t)) (hg : Gl X x := by rfl) (hd : (x == ("__debug__" : Str)) = false := by decide) : PE X (.Name x pos) (tC (.int i)) := by
  obtain ⟨t, h⟩ := h
  exact pe_glob hg h ⟨t, rfl⟩ hd
theorem pe_gs {i : Str} (h : ∃ t, X.mg x = some (.str i t)) (hg : Gl X x := by rfl) (hd : (x == ("__debug__" : Str)) = false := by decide) : PE X (.Name x pos) (tC (.str i)) := by
  obtain ⟨t, h⟩ := h
  exact pe_glob hg h ⟨t, rfl⟩ hd
end

/-! ### the law's call -/
section
variable {P : Program} {w : World} {K : PySem.W.Frag} {mg mb : Str → Option Value} {k : Nat} {fa a : Addr} {fd : FuncData} {x : Str} {sp : Sp} {s₁ : Shared} {vs : List Value} {ns : List Int}
abbrev LawEnd (s₁ : Shared) (r : Result) (s' : Shared) : Prop := r = .ok (.ret (.bool true)) ∧ OldK s₁.heap s'.heap ∧ s'.os = s₁.os ∧ AllBare s'.gens
/-- from an abstract heap that tracks nothing but, perhaps, the script, locked -/
theorem law_in {H : Hp} (KX : K.In s₁.heap) (hns : s₁.heap.Ns mainGlobals mg) (hb : s₁.heap.Ns builtinsNs mb) (hbb : ∀ y : Str, y ≠ "__name__" → mb y = bootBuiltins y) (hlim : s₁.heap.NoLimit) (hg : s₁.gens = #[])
    (hr : Rm k callerA) (F : ∀ base : Heap, K.In base → base.Ns mainGlobals mg → FnG Rm P w K mg base k fa fd [x] sp) (bnd : ∀ (s : Shared) (u : Value), BindsTo s fd ⟨[u], []⟩ [(x, u)])
    (ok : HOk P w H s₁.heap) (only : ∀ b, H b = none ∨ ∃ o ys, H b = some (.frz o (.lst ys))) (nk : ∀ b o, K.lookup b = some o → H b = none) (nd : ∀ b o es ep, s₁.heap.get? b = some o → o.data = .dict es ep → H b = none)
    (hsp : sp [.ref a] H (fun v _ => v = .bl true) fun _ _ _ => False) :
    codeAny (model P w) callerA (.call (.ref fa) ⟨[.ref a], []⟩) (LawEnd s₁) s₁ := by
  have ns_in : ∀ {b : Addr} {m : Str → Option Value}, s₁.heap.Ns b m → (hidT s₁.heap H).Ns b m := by
    rintro b m ⟨o, es, ep, e, d, z⟩
    exact ⟨o, es, ep, hidT_get e (nd b o es ep e d), d, z⟩
  have K0 : K.In (hidT s₁.heap H) := fun b o e => hidT_get (KX b o e) (nk b o e)
  obtain ⟨mc, c1, c2⟩ := hlim
  have M0 : Mod K mg (hidT s₁.heap H) := ⟨K0, ns_in hns, ⟨mb, ns_in hb, hbb⟩, ⟨mc, ns_in c1, c2⟩⟩
  have e0 : Env0 P w K mg (hidT s₁.heap H) callerA [] s₁ H :=
    ⟨rfl, M0, fun _ _ e => of_hidT e, Nat.le_of_eq (hidT_size _ _), trivial, fun b hb => (List.not_mem_nil (show b ∈ ([] : List Addr) from hb)).elim, ok, .of_eq hg⟩
  have run := (F _ K0 (ns_in hns)).run callerA [] s₁ H ⟨[.ref a], []⟩ [.ref a] [.ref a] _ _ hr e0 (bnd s₁ (.ref a)) (.cons rfl .nil) hsp
  refine codeAny_mono run fun r s' z => ?_
  cases r with
  | error e =>
    obtain ⟨_, _, _, _, _, _, _, _, _, _, _, _, y⟩ := z
    exact y.elim
  | ok fl =>
    cases fl with
    | ret u =>
      obtain ⟨v, H', os, bare, un, ok', r1, q⟩ := z
      cases (show v = .bl true from q)
      cases (show u = Value.bool true from r1)
      refine ⟨rfl, OldK.of_keep fun b o e => ?_, os, bare⟩
      rcases only b with y | ⟨ob, ys, y⟩
      · exact un.keep b o e y (fun z => List.not_mem_nil (show b ∈ ([] : List Addr) from z)) List.not_mem_nil
      · have e2 := (ok' b _ (un.frzs b ob _ y)).1
        have e1 := (ok b _ y).1
        rw [e] at e1
        cases e1
        exact e2
    | next => exact z.elim
    | brk => exact z.elim
    | cont => exact z.elim
theorem law_run (KX : K.In s₁.heap) (hns : s₁.heap.Ns mainGlobals mg) (hb : s₁.heap.Ns builtinsNs mb) (hbb : ∀ y : Str, y ≠ "__name__" → mb y = bootBuiltins y) (hlim : s₁.heap.NoLimit) (hg : s₁.gens = #[])
    (ha : s₁.heap.get? a = some { cls := .type "list", data := .seq vs.toArray }) (hi : IntsAre vs ns) (hl : ns.length ≤ sizeLine) (hr : Rm k callerA)
    (F : ∀ base : Heap, K.In base → base.Ns mainGlobals mg → FnG Rm P w K mg base k fa fd [x] sp) (bnd : ∀ (s : Shared) (u : Value), BindsTo s fd ⟨[u], []⟩ [(x, u)])
    (hsp : ∀ H : Hp, SqL K H a (ns.map V.int) → sp [.ref a] H (fun v _ => v = .bl true) fun _ _ _ => False) :
    codeAny (model P w) callerA (.call (.ref fa) ⟨[.ref a], []⟩) (LawEnd s₁) s₁ := by
  have rv := vals_ints hi
  have ln := hi.length
  by_cases hk : ∃ o, K.lookup a = some o
  · -- the script is an object of the module's own
    obtain ⟨o, hk⟩ := hk
    have e := KX a o hk
    rw [ha] at e
    cases e
    refine law_in (H := fun _ => none) KX hns hb hbb hlim hg hr F bnd (fun _ _ z => nomatch z) (fun _ => .inl rfl) (fun _ _ _ => rfl) (fun _ _ _ _ _ _ => rfl) (hsp _ (.inr ⟨_, vs.toArray, _, hk, rfl, rfl, rfl, ?_, ?_⟩))
    · rw [List.size_toArray, ln]
      exact hl
    · simpa using rv
  · let H : Hp := fun b => if b = a then some (.frz { cls := .type "list", data := .seq vs.toArray } (.lst (ns.map V.int))) else none
    have at_a : H a = some (.frz { cls := .type "list", data := .seq vs.toArray } (.lst (ns.map V.int))) := if_pos rfl
    have off : ∀ b, b ≠ a → H b = none := fun b h => if_neg h
    refine law_in (H := H) KX hns hb hbb hlim hg hr F bnd (fun b u z => ?_) (fun b => ?_) (fun b o z => ?_) (fun b o es ep z d => ?_) (hsp H (.inl (.inr ⟨_, at_a⟩)))
    · by_cases e : b = a
      · subst e
        rw [at_a] at z
        cases z
        exact ⟨ha, by rw [List.length_map]; exact hl, vs, _, rv, ha⟩
      · rw [off b e] at z
        cases z
    · by_cases e : b = a
      · exact .inr ⟨_, _, by rw [e]; exact at_a⟩
      · exact .inl (off b e)
    · exact off b fun e => hk ⟨o, e ▸ z⟩
    · refine off b fun e => ?_
      rw [e, ha] at z
      cases z
      have d' : Data.seq vs.toArray _ = Data.dict es ep := d
      cases d'
end
/-- the promise of every law: whatever the script, True -/
abbrev S_of_law (K : PySem.W.Frag) : Sp := sp1 fun a H Q _ => ∃ (ns : List Int) (p : Addr), a = .ref p ∧ SqL K H p (ns.map V.int) ∧ ns.length ≤ 63 ∧ (∀ z ∈ ns, Builtin.Int.intBits z ≤ 1048576) ∧ ∀ H', Q (.bl true) H'
theorem law_walk {l : PySem.W.OpenLaw} {k : Nat} {q : Program} {loose : List Str} {XP : (Str → Option Value) → Heap → Prop} {YP : World → Heap → Prop} {d : DefRec} {K : Params → PySem.W.Frag} {x : Str}
    (hn : l.most = some 63) (hdf : d.params.defaults = []) (hr : Rm k callerA) (hY : ∀ (w : World) (h : Heap), YP w h → (K w.params).In h)
    (F : ∀ (w : World) (mg : Str → Option Value) (fa : Addr) (h : Heap), (K w.params).In h → h.Ns mainGlobals mg → mg d.name = some (.ref fa) →
      ∃ fd : FuncData, (∀ (s : Shared) (u : Value), BindsTo s fd ⟨[u], []⟩ [(x, u)]) ∧
        ∀ base : Heap, (K w.params).In base → base.Ns mainGlobals mg → FnG Rm l.prog w (K w.params) mg base k fa fd [x] (S_of_law (K w.params))) :
    PySem.W.WalkO q loose XP YP l.row.toRowW d [] (fun f vs => PySem.call f vs) := by
  refine Att.attach_callB hn hdf fun w s₀ s₁ mg mb fa o pm cd doc a vs ns G Y ho hd hcd hmg hobj hints hlen hbits hg => ?_
  have KX := hY w _ Y
  obtain ⟨fd, hb, hF⟩ := F w mg fa _ KX G.T.g hmg
  exact law_run KX G.T.g G.T.b G.T.builtins G.T.nolimit hg hobj hints (Nat.le_trans hlen (by decide)) hr hF hb fun H hS => ⟨_, rfl, ns, a, rfl, hS, hlen, hbits, fun _ => rfl⟩
end G
namespace G
open PySem PySem.Spec PyProof.Rows L2
/-! ### tuples of the module -/
/-- a tuple that the top has written -/
def SqTK (K : PySem.W.Frag) (a : Addr) (xs : List V) : Prop :=
  ∃ (o : Obj) (its : Array Value) (n : Nat), K.lookup a = some o ∧ o.cls = .type "tuple" ∧ o.data = .seq its n ∧ its.size ≤ sizeLine ∧ Vals xs its.toList ∧ o.dict = none
theorem SqTK.sq {K : PySem.W.Frag} {a : Addr} {xs : List V} (h : SqTK K a xs) (H : Hp) : SqT K H a xs := by
  obtain ⟨o, its, n, h1, h2, h3, h4, h5, _⟩ := h
  exact .inr ⟨o, its, n, h1, h2, h3, h4, h5⟩
theorem SqTK.ty {K : PySem.W.Frag} {a : Addr} {xs : List V} (h : SqTK K a xs) (H : Hp) : tyV K "tuple" (.ref a) H := by
  obtain ⟨o, its, n, h1, h2, h3, h4, h5, h6⟩ := h
  exact .inr (.inl ⟨rfl, o, h1, h2, h6⟩)
theorem sqTK_mk {K : PySem.W.Frag} {a : Addr} {xs : List V} {us : List Value} {n : Nat} {sl : Array (Option Value)} (l : K.lookup a = some ⟨.type "tuple", none, .seq us.toArray n, sl⟩) (v : Vals xs us) (h : xs.length ≤ 1000 := by decide) : SqTK K a xs :=
  ⟨_, us.toArray, n, l, rfl, rfl, by rw [List.size_toArray, ← v.length]; exact Nat.le_trans h (by decide), by simpa using v, rfl⟩

/-! ### exceptions of the program without an __init__ of their own -/
abbrev veTail : List Value := [.type "ValueError", .type "Exception", .type "BaseException", .type "object"]
structure ExcAt (K : PySem.W.Frag) (mg : Str → Option Value) (x : Str) : Prop where
  ex : ∃ C, mg x = some (.ref C) ∧ PySem.W.excIn K C veTail "ValueError.__new__" = true ∧ PySem.W.keepIn K (.ref C) = true ∧ PySem.W.subIn K (.ref C) (.type "BaseException") = some true ∧ PySem.W.typeIn K (.ref C) = some (.type "type") ∧
    PySem.W.isClsIn K C = true ∧ PySem.W.subIn K (.ref C) (.ref C) = some true
theorem excAt_mk {K : PySem.W.Frag} {mg : Str → Option Value} {h : Heap} {x : Str} {C : Addr} (X : K.In h) (g : h.Ns mainGlobals mg) (a : PySem.W.nsIn K mainGlobals x = some (some (.ref C)))
    (e : PySem.W.excIn K C veTail "ValueError.__new__" = true) (kp : PySem.W.keepIn K (.ref C) = true) (b : PySem.W.subIn K (.ref C) (.type "BaseException") = some true) (t : PySem.W.typeIn K (.ref C) = some (.type "type"))
    (i : PySem.W.isClsIn K C = true) (s : PySem.W.subIn K (.ref C) (.ref C) = some true) : ExcAt K mg x := ⟨C, PySem.W.mg_of X g a, e, kp, b, t, i, s⟩
/-- raise x('m') -/
theorem pmk_own {X : Cx} {x m : Str} {j : Nat} {p p2 pos : Pos} (k : ExcAt X.K X.mg x) (hg : Gl X x := by rfl) (hdb : (x == ("__debug__" : Str)) = false := by decide) :
    PMk X (.Call (.Name x p) [.Constant (.str m) j p2] [] pos) (fun _ H Q => ∀ C, X.mg x = some (.ref C) → Q (.ref C) none H) := by
  obtain ⟨C, mg, e, kp, b, t, _, _⟩ := k.ex
  intro pins s σ H Q I h
  exact L2.pmk_own PySem.F.excBase_ValueError e mg kp (raises_own b t) hg hdb pins s σ H Q I (h C mg)

/-! ### repr -/
/-- any data: none, bools, ints, texts, lists, tuples -/
def rRepr (K : PySem.W.Frag) : List V → Hp → VK → Prop := fun xs H Q => ∃ x d, xs = [x] ∧ Dp K H x d ∧ d.showable = true ∧ d.depth ≤ 60 ∧ d.shown.length ≤ sizeLine ∧ Q (.str d.shown) H
theorem noDict {K : PySem.W.Frag} {H : Hp} {a : Addr} {d : PyData} (h : Dp K H (.ref a) d) : (∃ ds, d = .list ds) ∨ ∃ ds, d = .tuple ds := by
  cases h with
  | lst _ _ => exact .inl ⟨_, rfl⟩
  | tup _ _ => exact .inr ⟨_, rfl⟩
mutual
theorem noDictD {K : PySem.W.Frag} {H : Hp} : ∀ {v : V} {d : PyData}, Dp K H v d → d.hasDict = false
  | _, _, .non => rfl
  | _, _, .bl _ => rfl
  | _, _, .int _ => rfl
  | _, _, .str _ => rfl
  | _, _, .lst _ h => by
    show PyData.hasDictAll _ = false
    exact noDictA h
  | _, _, .tup _ h => by
    show PyData.hasDictAll _ = false
    exact noDictA h
theorem noDictA {K : PySem.W.Frag} {H : Hp} : ∀ {vs : List V} {ds : List PyData}, DpAll K H vs ds → PyData.hasDictAll ds = false
  | _, _, .nil => rfl
  | _, _, .cons h t => by
    show (PyData.hasDict _ || PyData.hasDictAll _) = false
    rw [noDictD h, noDictA t]
    rfl
end
theorem call_repr {X : Cx} {k : Nat} (hr : Rm k X.A) : CallR X (.builtin "repr") (rRepr X.K) := by
  intro pins s σ H xs us Q I r h
  obtain ⟨x, d, rfl, hd, hs, hdp, hz, q⟩ := h
  obtain ⟨u, rfl, ru⟩ := vals1 r
  have un := hr.r.units
  cases hd with
  | non =>
    cases ru
    exact PySem.P.repr_of_none ⟨.str _, H, I.tok _, ⟨_, rfl⟩, by rw [PyData.shown_none] at q; exact q⟩
  | bl b =>
    cases ru
    exact PySem.P.repr_of_bool ⟨.str _, H, I.tok _, ⟨_, rfl⟩, by rw [PyData.shown_bool] at q; exact q⟩
  | int i =>
    obtain ⟨t, rfl⟩ := ru
    exact PySem.P.repr_of_int (by simpa [PyData.showable] using hs) ⟨.str _, H, I.tok _, ⟨_, rfl⟩, by rw [PyData.shown_int] at q; exact q⟩
  | str y =>
    obtain ⟨t, rfl⟩ := ru
    exact PySem.P.repr_of_str ⟨.str _, H, I.tok _, ⟨_, rfl⟩, by rw [PyData.shown_str] at q; exact q⟩ (by rw [PyData.shown_str] at hz; exact hz)
  | lst h1 h2 =>
    cases ru
    have hd2 : Dp X.K H (.ref _) (.list _) := .lst h1 h2
    obtain ⟨as, rd⟩ := Dp.reads I _ _ _ hd2 rfl
    refine repr_of_reads' rd hs (fun z => by rw [noDictD hd2] at z; cases z) hr.g (by omega) (fun _ _ e => e) (fun h' u tk keep => ?_) hz
    exact ⟨.str _, H, I.kept keep, ⟨_, rfl⟩, q⟩
  | tup h1 h2 =>
    cases ru
    have hd2 : Dp X.K H (.ref _) (.tuple _) := .tup h1 h2
    obtain ⟨as, rd⟩ := Dp.reads I _ _ _ hd2 rfl
    refine repr_of_reads' rd hs (fun z => by rw [noDictD hd2] at z; cases z) hr.g (by omega) (fun _ _ e => e) (fun h' u tk keep => ?_) hz
    exact ⟨.str _, H, I.kept keep, ⟨_, rfl⟩, q⟩

/-! ### defs with defaults -/
structure DefD (K : PySem.W.Frag) (mg : Str → Option Value) (x : Str) (st : Stmt) (dvs : List V) (f : Addr) (fd : FuncData) : Prop where
  fn : FunD K x x (defArgs st) (defBody st) (defScope st) dvs [] f fd
  mg : mg x = some (.ref f)
abbrev TopDefD (K : PySem.W.Frag) (mg : Str → Option Value) (x : Str) (st : Stmt) (dvs : List V) : Prop := ∃ f fd, DefD K mg x st dvs f fd
theorem defAtD_mk {K : PySem.W.Frag} {mg : Str → Option Value} {x : Str} {h : Heap} {st : Stmt} {d : V} {dvs : List V} {f T : Addr} {od an dd : Option Addr} {sl sl2 : Array (Option Value)} {oc kV dc pm cd ct : Value} {us : List Value} {n : Nat} (X : K.In h) (g : h.Ns mainGlobals mg)
    (a : PySem.W.nsIn K mainGlobals x = some (some (.ref f))) (l : K.lookup f = some ⟨oc, od, .func (PySem.W.fnOf x x (defArgs st) (defBody st) (defScope st) (.ref T) kV dc pm an cd ct), sl⟩)
    (c : PySem.W.codeIn K cd x = true) (kp : PySem.W.keepIn K (.ref f) = true) (t : K.lookup T = some ⟨.type "tuple", dd, .seq us.toArray n, sl2⟩) (v : Vals (d :: dvs) us) : TopDefD K mg x st (d :: dvs) :=
  ⟨f, _, ⟨⟨oc, od, _, kV, dc, pm, an, cd, ct, sl, rfl, l, c, .inr ⟨(fun z => nomatch z), T, _, us, n, rfl, t, rfl, v⟩, .inl rfl⟩, kp⟩, PySem.W.mg_of X g a⟩
section
variable {ρ : Nat → Around → Prop} {P : Program} {w : World} {K : PySem.W.Frag} {mg : Str → Option Value} {base : Heap} {k : Nat} {x : Str} {ps : List Str} {dvs : List V} {sp : Sp} {f : Addr} {fd : FuncData}
theorem fn_of_bodyD (R : RoomLike ρ) {q : Str} {st : Stmt} {N : List Str} (D : FunD K x q (defArgs st) (defBody st) (defScope st) dvs [] f fd) (S : FnScope N ps (defScope st)) (len : ∀ vs H Q E, sp vs H Q E → vs.length = ps.length)
    (hbody : ∀ (cdv : Value) (A : Around) (outer : List Env) (s : Shared) (H : Hp) (vs : List V) (Q : VK) (E : XK), ρ k (A.deeper (envOfC q (defScope st) s.heap.objs.size f cdv)) → sp vs H Q E →
      ∃ t, PSs (cxOf (L2.CX P w) P w K mg base N q (defScope st) f cdv A outer s H E) (defBody st) t ∧ t { nx := fun _ H' => Q .non H', rt := Q } (start N vs) H) : FnG ρ P w K mg base (k + 1) f fd ps sp := by
  obtain ⟨oc, od, dV, kV, doc, pm, an, cdv, ct, osl, rfl, lk, hcd, _, _⟩ := D.ex
  exact FnG.body R lk hcd S len (hbody cdv)
/-- called with n values, the last defaults filling up (those behind the first j) -/
theorem cal_mkD {st : Stmt} (D : DefD K mg x st dvs f fd) (F : FnG ρ P w K mg base k f fd ps sp) (n j : Nat) (hd : dvs ≠ []) (hn : n + (dvs.length - j) = ps.length)
    (h : ∀ (T : Addr) (kV doc pm : Value) (an : Option Addr) (cdv ct : Value) (us its : List Value), us.length = n → its.length = dvs.length →
      ∃ k, bindArgs (PySem.W.fnOf x x (defArgs st) (defBody st) (defScope st) (.ref T) kV doc pm an cdv ct) ⟨us, []⟩ = seqItems? (.ref T) >>= k ∧ k (some its.toArray) = pure (ps.zip (us ++ its.drop j))) :
    Cal ρ P w K mg base k x (dvs.drop j) sp := by
  obtain ⟨ds, r, b⟩ := D.fn.binds1 n j hd hn h
  exact ⟨f, fd, ps, ds, F, D.mg, D.fn.kp, r, b⟩
end

/-! ### calls by keywords alone -/
/-- a def called by its names: ks the names as they stand, g puts the values in the parameters' order -/
structure CalK (ρ : Nat → Around → Prop) (P : Program) (w : World) (K : PySem.W.Frag) (mg : Str → Option Value) (base : Heap) (k : Nat) (x : Str) (ks : List Str) (gV : List V → List V → List V) (sp : Sp) : Prop where
  ex : ∃ f fd ps, ∃ g : List Value → List Value → List Value, FnG ρ P w K mg base k f fd ps sp ∧ mg x = some (.ref f) ∧ PySem.W.keepIn K (.ref f) = true ∧ KBinds K fd ps ks g gV
section
variable {ρ : Nat → Around → Prop} {P : Program} {w : World} {K : PySem.W.Frag} {mg : Str → Option Value} {base : Heap} {k : Nat} {x : Str} {ps ks : List Str} {dvs : List V} {sp : Sp} {f : Addr} {fd : FuncData}
/-- all given, no defaults -/
theorem calK_mk {st : Stmt} {g : {α : Type} → List α → List α → List α} (D : DefAt K mg x st ps f fd) (F : FnG ρ P w K mg base k f fd ps sp)
    (hrel : ∀ {vs zs : List V} {us ws : List Value}, Vals vs us → Vals zs ws → Vals (g vs zs) (g us ws))
    (h : ∀ (kV doc pm : Value) (an : Option Addr) (cdv ct : Value) (us ws : List Value), (g us ws).length = ps.length → bindArgs (PySem.W.fnOf x x (defArgs st) (defBody st) (defScope st) .none kV doc pm an cdv ct) ⟨us, ks.zip ws⟩ = pure (ps.zip (g us ws))) :
    CalK ρ P w K mg base k x ks g sp := by
  obtain ⟨oc, od, kV, doc, pm, an, cdv, ct, osl, e, _⟩ := D.fn.ex
  refine ⟨f, fd, ps, g, F, D.mg, D.fn.kp, ⟨fun s us ws _ hl => ?_, hrel⟩⟩
  subst e
  exact .of_eq (h kV doc pm an cdv ct us ws hl)
/-- all given, defaults there, not used -/
theorem calK_mkD {st : Stmt} {g : {α : Type} → List α → List α → List α} (D : DefD K mg x st dvs f fd) (hd : dvs ≠ []) (F : FnG ρ P w K mg base k f fd ps sp)
    (hrel : ∀ {vs zs : List V} {us ws : List Value}, Vals vs us → Vals zs ws → Vals (g vs zs) (g us ws))
    (h : ∀ (T : Addr) (kV doc pm : Value) (an : Option Addr) (cdv ct : Value) (us its ws : List Value), (g us ws).length = ps.length → its.length = dvs.length →
      ∃ k, bindArgs (PySem.W.fnOf x x (defArgs st) (defBody st) (defScope st) (.ref T) kV doc pm an cdv ct) ⟨us, ks.zip ws⟩ = seqItems? (.ref T) >>= k ∧ k (some its.toArray) = pure (ps.zip (g us ws))) :
    CalK ρ P w K mg base k x ks g sp := by
  obtain ⟨oc, od, dV, kV, doc, pm, an, cdv, ct, osl, rfl, lk, hcd, hD, hK⟩ := D.fn.ex
  rcases hD with ⟨e, _⟩ | ⟨_, T, o, its, m, rfl, lT, oT, rT⟩
  · exact absurd e hd
  · refine ⟨f, _, ps, g, F, D.mg, D.fn.kp, ⟨fun s us ws X hl => ?_, hrel⟩⟩
    obtain ⟨k, e1, e2⟩ := h T kV doc pm an cdv ct us its ws hl rT.length.symm
    refine BindsTo.of_looks fun M => ?_
    rw [e1]
    exact looks_items X lT oT (.of_pure e2)
end
section
variable {ρ : Nat → Around → Prop} {X : Cx} {k : Nat} {x : Str} {ks : List Str} {gV : List V → List V → List V} {sp : Sp} {E : XK} {e : Expr} {es : List Expr} {kws : List Keyword} {t tk : TA} {p pos : Pos}
theorem run_gk {pins : List (Addr × Obj)} {σ : L2.St} {H : Hp} {s : Shared} {Q : VK} {f : Addr} {fd : FuncData} {ps : List Str} {us ws : List Value} {vs zs : List V} {g : List Value → List Value → List Value} (F : FnG ρ X.prog X.w X.K X.mg X.base k f fd ps sp) (hr : ρ k X.A)
    (hb : KBinds X.K fd ps ks g gV) (hx : Passes (L2.CX X.prog X.w) X E) (I : Inv X pins σ H s) (rv : Vals vs us) (rz : Vals zs ws) (h : sp (gV vs zs) H Q E) :
    wpAny (model X.prog X.w) X.A (call (.ref f) us (ks.zip ws)) (EP X pins σ Q) X.xe s := by
  have r2 := hb.rel rv rz
  have l2 := r2.length.symm.trans (F.len _ _ _ _ h)
  refine wpAny_call (codeAny_mono (F.run X.A X.stack s H ⟨us, ks.zip ws⟩ _ _ Q E hr I.env0 (hb.to s us ws I.kIn l2) r2 h) ?_)
  intro R s' z
  have e := end_call I hx z
  cases R with
  | error _ => exact e
  | ok fl => cases fl <;> exact e
theorem pe_ck0 (C : CalK ρ X.prog X.w X.K X.mg X.base k x ks gV sp) (hr : ρ k X.A) (hx : Passes (L2.CX X.prog X.w) X E) (hkw : PK X kws tk) (hg : Gl X x := by rfl) (hall : (backToKw pos (keywordEach kws X.env)).all (·.1.isSome) = true := by rfl)
    (hks : (backToKw pos (keywordEach kws X.env)).filterMap (·.1) = ks := by rfl) (hdb : (x == ("__debug__" : Str)) = false := by decide)
    (hpl : ((backTo pos (starEach [] X.env)).any (·.1) || (backToKw pos (keywordEach kws X.env)).any (·.1.isNone)) = false := by rfl) :
    PE X (.Call (.Name x p) [] kws pos) (fun σ H Q => tk σ H fun zs H1 => sp (gV [] zs) H1 Q E) := by
  obtain ⟨f, fd, ps, g, F, m, kp, b⟩ := C.ex
  refine ⟨fun pins s σ H Q I h => wpAny_Call_Name_kw (ld_glob I hg m ?_ hdb)⟩
  refine PySem.W.callWith_KW0 (h₀ := X.base) I.ok.mod.kin kp hall ?_ hpl
  refine thn (hkw.run pos pins s σ H _ I h) fun ws s1 ⟨zs, H1, I1, rz, q⟩ => ⟨I1.kIn, ?_⟩
  rw [hks]
  exact run_gk (us := []) F hr b hx I1 .nil rz q
end
end G
namespace G
open PySem PySem.Spec PyProof.Rows L2
/-! ### isinstance of things of the built-in kinds -/
inductive Thing (K : PySem.W.Frag) (H : Hp) : V → String → Prop where
  | non : Thing K H .non "NoneType"
  | bl (b : Bool) : Thing K H (.bl b) "bool"
  | int (i : Int) : Thing K H (.int i) "int"
  | str (x : Str) : Thing K H (.str x) "str"
  | lst {a : Addr} (h : TyX K H (.ref a) (.type "list")) : Thing K H (.ref a) "list"
  | tup {a : Addr} (h : TyX K H (.ref a) (.type "tuple")) : Thing K H (.ref a) "tuple"
  | dict {a : Addr} (h : TyX K H (.ref a) (.type "dict")) : Thing K H (.ref a) "dict"
theorem Thing.ty {K : PySem.W.Frag} {H : Hp} {v : V} {n : String} (h : Thing K H v n) : TyX K H v (.type n) := by
  cases h with
  | non => exact .base .non
  | bl b => exact .base (.bl b)
  | int i => exact .base (.int i)
  | str x => exact .base (.str x)
  | lst h => exact h
  | tup h => exact h
  | dict h => exact h
abbrev plainTys : List String := ["NoneType", "bool", "int", "str", "list", "tuple", "dict"]
theorem Thing.name {K : PySem.W.Frag} {H : Hp} {v : V} {n : String} (h : Thing K H v n) : n ∈ plainTys := by
  cases h <;> decide
def subB (n m : String) : Bool := n == m || (n == "bool" && m == "int")
theorem kit_plain : ∀ n ∈ plainTys, ∀ m ∈ plainTys, kitB n m = some (subB n m) := by decide +kernel
def rIsB (K : PySem.W.Frag) : List V → Hp → VK → Prop := fun xs H Q => ∃ x n m, xs = [x, .ty m] ∧ Thing K H x n ∧ m ∈ plainTys ∧ Q (.bl (subB n m)) H
theorem call_isB {X : Cx} : CallR X (.builtin "isinstance") (rIsB X.K) := by
  intro pins s σ H xs us Q I r h
  obtain ⟨x, n, m, rfl, th, hm, q⟩ := h
  exact call_isi pins s σ H _ us Q I r ⟨x, .ty m, .type n, .type m, _, rfl, .ty m, th.ty, kit_ty (kit_plain n th.name m hm), q⟩
def isIntV : V → Bool
  | .int _ => true
  | _ => false
theorem isInt_of {K : PySem.W.Frag} {H : Hp} {v : V} {n : String} (h : Thing K H v n) : (subB n "int" && !subB n "bool") = isIntV v := by
  cases h <;> rfl
/-- a whole number from one to another -/
def btwV (v : V) (lo hi : Int) : Bool := match v with
  | .int i => decide (lo ≤ i) && decide (i ≤ hi)
  | _ => false
theorem btwV_ex {v : V} {lo hi : Int} (h : btwV v lo hi = true) : ∃ i, v = .int i ∧ lo ≤ i ∧ i ≤ hi := by
  cases v with
  | int i =>
    simp only [btwV, Bool.and_eq_true, decide_eq_true_eq] at h
    exact ⟨i, rfl, h⟩
  | _ => cases h
theorem btwV_int {i lo hi : Int} (h : lo ≤ i ∧ i ≤ hi) : btwV (.int i) lo hi = true := by
  simp only [btwV, Bool.and_eq_true, decide_eq_true_eq]
  exact h
end G
namespace G
open PySem PySem.Spec PyProof.Rows L2
theorem atI_int {α : Type} {xs : List α} {k : Int} {v : α} (h0 : 0 ≤ k) (h : xs[k.toNat]? = some v) : atI xs k = some v := by
  have e := atI_nat h
  rwa [Int.toNat_of_nonneg h0] at e
theorem upd_old {H : Hp} {p r : Addr} {o x : HO} (h : H r = some x) (f : H p = none) : upd H p o r = some x := by
  rw [upd_ne (ne_of_none h f)]
  exact h
theorem upd_oth {H : Hp} {p r : Addr} {o x : HO} (h : H r = some x) (ne : r ≠ p) : upd H p o r = some x := by
  rw [upd_ne ne]
  exact h
theorem rep_ints (k : Nat) (i : Int) : (List.replicate k [V.int i]).flatten = (List.replicate k i).map V.int := by
  induction k with
  | zero => rfl
  | succ k ih => rw [List.replicate_succ, List.flatten_cons, ih, List.replicate_succ]; rfl
theorem sum_rep (k : Nat) (i : Int) : (List.replicate k i).sum = (k : Int) * i := by
  induction k with
  | zero => simp
  | succ k ih => rw [List.replicate_succ, List.sum_cons, ih, Int.natCast_add, Int.add_mul]; omega
end G
namespace G
open PySem PySem.Spec PyProof.Rows L2
theorem sqL_up {K : PySem.W.Frag} {H : Hp} {a p : Addr} {o : HO} {xs : List V} (h : SqL K H a xs) (f : H p = none) : SqL K (upd H p o) a xs :=
  Same.seq (fun _ _ e => upd_old e f) h
theorem atL {H : Hp} {a b : Addr} {xs ys : List V} (h : H a = some (.lst xs)) (h' : H b = some (.lst ys)) (d : xs ≠ ys) : a ≠ b :=
  ne_of h h' fun e => d (HO.lst.inj e)
end G
namespace G
open PySem PySem.Spec PyProof.Rows L2
/-! ### data whose repr is short enough, by a look at its leaves -/
mutual
def fine : PyData → Bool
  | .none | .bool _ => true
  | .int i => decide (i.natAbs < 10 ^ 12)
  | .str x => PyData.strOk x && x.cps.toList.all fun c => decide (c < 16 ^ 8)
  | .list xs | .tuple xs => fineAll xs
  | .dict _ => false
def fineAll : List PyData → Bool
  | [] => true
  | x :: xs => fine x && fineAll xs
end
theorem log_fine {i : Int} (h : i.natAbs < 10 ^ 12) : i.natAbs.log2 < 1920 := by
  by_cases e : i.natAbs = 0
  · rw [e]
    decide
  · have h2 : i.natAbs < 2 ^ 1920 := Nat.lt_trans h (Nat.lt_of_lt_of_le (by decide : 10 ^ 12 < 2 ^ 40) (Nat.pow_le_pow_right (by decide) (by decide)))
    exact (Nat.log2_lt e).mpr h2
mutual
theorem fine_ok : ∀ d : PyData, fine d = true → d.leavesShort 13 = true ∧ d.showable = true
  | .none, _ => ⟨rfl, rfl⟩
  | .bool _, _ => ⟨rfl, rfl⟩
  | .int i, h => by
    have h1 : i.natAbs < 10 ^ 12 := by simpa only [fine, decide_eq_true_eq] using h
    exact ⟨by simp only [PyData.leavesShort, decide_eq_true_eq]; exact PyData.shown_int_le h1, by simp only [PyData.showable, decide_eq_true_eq]; exact log_fine h1⟩
  | .str x, h => by
    simp only [fine, Bool.and_eq_true] at h
    exact ⟨by simpa only [PyData.leavesShort] using h.2, rfl⟩
  | .list xs, h => by
    have h1 := fineAll_ok xs (by simpa only [fine] using h)
    exact ⟨by simpa only [PyData.leavesShort] using h1.1, by simpa only [PyData.showable] using h1.2⟩
  | .tuple xs, h => by
    have h1 := fineAll_ok xs (by simpa only [fine] using h)
    exact ⟨by simpa only [PyData.leavesShort] using h1.1, by simpa only [PyData.showable] using h1.2⟩
  | .dict _, h => by simp [fine] at h
theorem fineAll_ok : ∀ xs : List PyData, fineAll xs = true → PyData.leavesShortAll 13 xs = true ∧ PyData.showableAll xs = true
  | [], _ => ⟨rfl, rfl⟩
  | x :: xs, h => by
    simp only [fineAll, Bool.and_eq_true] at h
    have h1 := fine_ok x h.1
    have h2 := fineAll_ok xs h.2
    exact ⟨by simp only [PyData.leavesShortAll, h1.1, h2.1, Bool.and_self], by simp only [PyData.showableAll, h1.2, h2.2, Bool.and_self]⟩
end
mutual
theorem fine_lay : ∀ d : PyData, fine d = true → d.canLay0 = true
  | .none, _ => rfl
  | .bool _, _ => rfl
  | .int _, _ => rfl
  | .str x, h => by
    simp only [fine, Bool.and_eq_true] at h
    simpa only [PyData.canLay0] using h.1
  | .list xs, h => by simpa only [PyData.canLay0] using fineAll_lay xs (by simpa only [fine] using h)
  | .tuple xs, h => by simpa only [PyData.canLay0] using fineAll_lay xs (by simpa only [fine] using h)
  | .dict _, h => by simp [fine] at h
theorem fineAll_lay : ∀ xs : List PyData, fineAll xs = true → PyData.canLayAll0 xs = true
  | [], _ => rfl
  | x :: xs, h => by
    simp only [fineAll, Bool.and_eq_true] at h
    simp only [PyData.canLayAll0, fine_lay x h.1, fineAll_lay xs h.2, Bool.and_self]
end
def rReprF (K : PySem.W.Frag) : List V → Hp → VK → Prop := fun xs H Q => ∃ x d, xs = [x] ∧ Dp K H x d ∧ (fine d = true ∧ d.depth ≤ 60 ∧ d.bulk ≤ 2 ^ 20) ∧ Q (.str d.shown) H
theorem call_reprF {X : Cx} {k : Nat} (hr : Rm k X.A) : CallR X (.builtin "repr") (rReprF X.K) := by
  intro pins s σ H xs us Q I r h
  obtain ⟨x, d, e, hd, ⟨h1, h2, h3⟩, q⟩ := h
  have h4 := fine_ok d h1
  exact call_repr hr pins s σ H xs us Q I r ⟨x, d, e, hd, h4.2, h2, PyData.shown_fits_bulk (B := 13) (by decide) (by decide) h4.1 h3, q⟩
theorem dpAll_ints {K : PySem.W.Frag} {H : Hp} : ∀ ns : List Int, DpAll K H (ns.map V.int) (ns.map PyData.int)
  | [] => .nil
  | n :: ns => .cons (.int n) (dpAll_ints ns)
theorem dp_ints {K : PySem.W.Frag} {H : Hp} {a : Addr} {ns : List Int} (h : H a = some (.lst (ns.map V.int))) : Dp K H (.ref a) (.list (ns.map .int)) := .lst (SqL.of h) (dpAll_ints ns)
theorem fineAll_ints : ∀ {ns : List Int}, (∀ n ∈ ns, n.natAbs < 10 ^ 12) → fineAll (ns.map .int) = true
  | [], _ => rfl
  | n :: ns, h => by
    simp only [List.map_cons, fineAll, fine, Bool.and_eq_true, decide_eq_true_eq]
    exact ⟨h n List.mem_cons_self, fineAll_ints fun m hm => h m (List.mem_cons_of_mem _ hm)⟩
theorem depthAll_ints : ∀ ns : List Int, PyData.depthAll (ns.map .int) = 0
  | [] => rfl
  | n :: ns => by simp only [List.map_cons, PyData.depthAll, PyData.depth, depthAll_ints ns, Nat.max_self]
theorem bulkAll_ints : ∀ ns : List Int, PyData.bulkAll (ns.map .int) = ns.length
  | [] => rfl
  | n :: ns => by
    have := bulkAll_ints ns
    simp only [List.map_cons, PyData.bulkAll, PyData.bulk, List.length_cons]
    omega
theorem fine_ints {ns : List Int} (h : ∀ n ∈ ns, n.natAbs < 10 ^ 12) (l : ns.length ≤ 500000) : fine (.list (ns.map .int)) = true ∧ (PyData.list (ns.map .int)).depth ≤ 60 ∧ (PyData.list (ns.map .int)).bulk ≤ 2 ^ 20 := by
  have h1 := bulkAll_ints ns
  refine ⟨by simpa only [fine] using fineAll_ints h, ?_, ?_⟩
  · simp only [PyData.depth, depthAll_ints]
    decide
  · simp only [PyData.bulk]
    have : (2 : Nat) ^ 20 = 1048576 := by decide
    omega
theorem canLay_ints : ∀ ns : List Int, PyData.canLayAll0 (ns.map .int) = true
  | [] => rfl
  | n :: ns => by simp only [List.map_cons, PyData.canLayAll0, PyData.canLay0, canLay_ints ns, Bool.and_self]
theorem shaped_of {d : PyData} (h : d.canLay0 = true) (k : d.depth ≤ 60) : SeqAt.shaped d = true := by
  unfold SeqAt.shaped
  rw [h, Bool.true_and]
  exact decide_eq_true (Nat.le_trans k (by decide))
theorem shaped_ints (ns : List Int) : SeqAt.shaped (.list (ns.map .int)) = true :=
  shaped_of (by simpa only [PyData.canLay0] using canLay_ints ns) (by simp only [PyData.depth, depthAll_ints]; decide)
theorem eqv_self {d : PyData} (h : SeqAt.shaped d = true) : PyData.eqv d d = true := SeqAt.eqv_refl d (SeqAt.canLay_of_shaped h)
end G
namespace G
open PySem PySem.Spec PyProof.Rows L2
theorem intAt_mk {K : PySem.W.Frag} {mg : Str → Option Value} {h : Heap} {x : Str} {i : Int} {t : Tok} (X : K.In h) (g : h.Ns mainGlobals mg) (a : PySem.W.nsIn K mainGlobals x = some (some (.int i t))) : ∃ t, mg x = some (.int i t) := ⟨t, PySem.W.mg_of X g a⟩
theorem strAt_mk {K : PySem.W.Frag} {mg : Str → Option Value} {h : Heap} {x : Str} {i : Str} {t : Tok} (X : K.In h) (g : h.Ns mainGlobals mg) (a : PySem.W.nsIn K mainGlobals x = some (some (.str i t))) : ∃ t, mg x = some (.str i t) := ⟨t, PySem.W.mg_of X g a⟩
end G
namespace G
open PySem PySem.Spec PyProof.Rows L2
/-- len, inside a comprehension: K stands alone -/
theorem call_lenK {X : Cx} {K : PySem.W.Frag} (hK : X.K = K) : CallR X (.builtin "len") (fun xs H Q => ∃ p ys, xs = [.ref p] ∧ (SqL K H p ys ∨ SqT K H p ys) ∧ Q (.int ys.length) H) := by
  subst hK
  exact call_len_seq
end G
namespace G
open PySem PySem.Spec PyProof.Rows L2
/-- an f-string, named, so that a comprehension's rule sees it -/
def tJoined (ts : List TE) : TE := fun σ H Q => tJs ts Str.empty σ H fun out H1 => Q (.str out) H1
theorem pe_joinT {X : Cx} {v1 v2 : Expr} {rest : List Expr} {ts : List TE} {pos : Pos} (h : PJ X (v1 :: v2 :: rest) ts) : PE X (.JoinedStr (v1 :: v2 :: rest) pos) (tJoined ts) := pe_joined h
end G
namespace G
open PySem PySem.Spec PyProof.Rows L2
theorem ix_listK {X : Cx} {K : PySem.W.Frag} (hK : X.K = K) : IxR X (rIxL K) := by
  subst hK
  exact ix_list
theorem ix_tupK {X : Cx} {K : PySem.W.Frag} (hK : X.K = K) : IxR X (rIxT K) := by
  subst hK
  exact ix_tup
end G
namespace G
open PySem PySem.Spec PyProof.Rows L2
/-! ### pens: a list of three ints that the draws change -/
def PenAt (p : Addr) (H : Hp) : Prop := ∃ x y z : Int, H p = some (.lst [.int x, .int y, .int z])
/-- all that stood stands, but p -/
def But (p : Addr) (H H' : Hp) : Prop := ∀ b o, b ≠ p → H b = some o → H' b = some o
theorem But.refl (p : Addr) (H : Hp) : But p H H := fun _ _ _ h => h
theorem But.trans {p : Addr} {H H' H'' : Hp} (a : But p H H') (b : But p H' H'') : But p H H'' := fun c o n h => b c o n (a c o n h)
theorem But.of {p : Addr} {H H' : Hp} (a : Same H H') : But p H H' := fun c o _ h => a c o h
theorem But.upd {p : Addr} {H : Hp} {o : HO} : But p H (upd H p o) := fun b u n h => by rw [upd_ne n]; exact h
theorem PenAt.at {p : Addr} {H : Hp} (h : PenAt p H) : ∃ o, H p = some o := let ⟨_, _, _, h⟩ := h; ⟨_, h⟩
theorem PenAt.same {p : Addr} {H H' : Hp} (h : PenAt p H) (s : Same H H') : PenAt p H' := let ⟨x, y, z, h⟩ := h; ⟨x, y, z, s _ _ h⟩
theorem PenAt.up {p q : Addr} {H : Hp} {o : HO} (h : PenAt p H) (f : H q = none) : PenAt p (upd H q o) := h.same fun _ _ e => upd_old e f
theorem PenAt.ne {p q : Addr} {H : Hp} (h : PenAt p H) (f : H q = none) : q ≠ p := fun e => by
  obtain ⟨_, _, _, h⟩ := h
  rw [← e, f] at h
  cases h
theorem PenAt.oth {p q : Addr} {H : Hp} {o : HO} (h : PenAt p H) (f : q ≠ p) : PenAt p (L2.upd H q o) := let ⟨x, y, z, h⟩ := h; ⟨x, y, z, by rw [upd_ne (Ne.symm f)]; exact h⟩
/-- a draw from a pen, as its reader wants it -/
theorem draw_in {Q : VK} {H : Hp} {p : Addr} {n : Int} (hp : PenAt p H) (h0 : 0 < n) (h1 : n < 1073741824) (k : ∀ H' r, But p H H' → PenAt p H' → 0 ≤ r → r < n → Q (.int r) H') :
    ∃ (p' : Addr) (x y z n' : Int), V.ref p = .ref p' ∧ V.int n = .int n' ∧ H p' = some (.lst [.int x, .int y, .int z]) ∧ 0 < n' ∧ n' < 1073741824 ∧ ∀ x' y' z' r : Int, 0 ≤ r → r < n' → Q (.int r) (upd H p' (.lst [.int x', .int y', .int z'])) := by
  obtain ⟨x, y, z, hp⟩ := hp
  exact ⟨p, x, y, z, n, rfl, rfl, hp, h0, h1, fun x' y' z' r r0 r1 => k _ _ But.upd ⟨_, _, _, upd_same⟩ r0 r1⟩
/-! ### a law's script -/
theorem xs_ints {ns : List Int} {z : Int} {lo hi : Option Int} : ∀ x ∈ [V.int z] ++ cutV (ns.map V.int) lo hi, ∃ i, x = V.int i := by
  intro x hx
  rcases List.mem_append.mp hx with e | e
  · exact ⟨z, List.mem_singleton.mp e⟩
  · obtain ⟨i, _, rfl⟩ := List.mem_map.mp (List.mem_of_mem_drop (List.mem_of_mem_take e))
    exact ⟨i, rfl⟩
theorem cut_len {xs : List V} {lo hi : Option Int} : (cutV xs lo hi).length ≤ xs.length := by
  unfold cutV
  rw [List.length_take, List.length_drop]
  omega
end G
namespace G
open PySem PySem.Spec PyProof.Rows L2
/-! ### a comprehension over anything that gives f 0, f 1, .. and leaves the heap: the list of what is made -/
theorem lc_map {J : It} {n : Nat} {Gs : Hp → Prop} {Y : Nat → Hp → V → Hp → Prop} (w : Walk J n Gs Y) {g : TG} {te : TE} {vs : List Nat} {σ : L2.St} {H1 : Hp} {D : Addr} {Qd : Hp → Prop} (ys : List V) (hn : ys.length = n) (hz : n ≤ sizeLine)
    (hG : ∀ zs, Gs (upd H1 D (.lst zs)))
    (hs : ∀ i x H H' (R : V → Hp → Prop), i < n → H = upd H1 D (.lst (ys.take i)) → Y i H x H' → (∀ y, ys[i]? = some y → R y H) → g x (wipe σ vs) H' fun σ2 H2 => wipe σ2 vs = wipe σ vs ∧ te σ2 H2 R) (hd : Qd (upd H1 D (.lst ys))) :
    ∃ W : Nat → Nat → Hp → Prop, (∃ m, W 0 m (upd H1 D (.lst []))) ∧ ∀ i m H, W i m H →
      (J.stop i H ∧ Qd H) ∨ (J.go i H ∧ ∃ Nx : Hp → Prop, (∀ H', Nx H' → ∃ m', m' < m ∧ W (i + 1) m' H') ∧ ∀ x H', J.yld i H x H' → g x (wipe σ vs) H' fun σ2 H2 => wipe σ2 vs = wipe σ vs ∧ tYes σ2 H2 fun b H3 =>
        if b = true then te σ2 H3 fun y H4 => ∃ acc, H4 D = some (.lst acc) ∧ acc.length < sizeLine ∧ Nx (upd H4 D (.lst (acc ++ [y]))) else Nx H3) := by
  refine lc_it w (fun i H => H = upd H1 D (.lst (ys.take i))) (by simp) (fun i H _ e => by rw [e]; exact hG _) (fun i x H H' hi e y => ?_) (fun H e => by rw [e, ← hn, List.take_length]; exact hd)
  simp only [tYes, ↓reduceIte]
  refine hs i x H H' _ hi e y fun v z4 => ?_
  have hl : (ys.take i).length = i := by rw [List.length_take]; omega
  refine ⟨_, by rw [e]; exact upd_same, by rw [hl]; omega, ?_⟩
  rw [e, upd_upd, List.take_succ, z4]
  rfl

/-! ### rows of words -/
def KN : List Str := ["end", "load", "store", "add", "less", "take", "from", "into", "go", "zero", "small", "read", "write", "other", "great", "still"]
/-- the row of a word -/
def rowT (i : Int) : Str := ((Str.empty ++ KN.getD (i / 4096).toNat Str.empty) ++ " ") ++ (toString (i % 4096) : String)
def isDig (c : Nat) : Bool := decide (48 ≤ c) && decide (c ≤ 57)
/-- the number that a text writes in so many figures at most -/
def figsIn (x : Str) (m : Int) : Option Int :=
  if decide (1 ≤ (x.length : Int)) && decide ((x.length : Int) ≤ m) && x.cps.toList.all isDig then
    (if x.cps.toList.head? = some 48 ∧ x ≠ "0" then none else some ((NumText.digitsVal x.cps.toList : Nat) : Int))
  else none
def optV : Option Int → V
  | none => .non
  | some i => .int i
def knIdx (x : Str) : Nat := KN.findIdx (· == x)
/-- the word that a row tells -/
def rowIn (x : Str) : Option Int :=
  match figsIn (Txt.partition x " ").2.2 4 with
  | none => none
  | some n => if (Txt.partition x " ").1 ∈ KN ∧ (Txt.partition x " ").2.1 ≠ "" ∧ n ≤ 4095 then some ((knIdx (Txt.partition x " ").1 : Int) * 4096 + n) else none
def wordInV : V → Option Int
  | .str x => rowIn x
  | _ => none
theorem digs_eq : ("0123456789" : Str).cps.toList = [48, 49, 50, 51, 52, 53, 54, 55, 56, 57] := by decide +kernel
theorem isDig_mem (c : Nat) : decide (c ∈ ("0123456789" : Str).cps.toList) = isDig c := by
  rw [digs_eq]
  unfold isDig
  by_cases h : 48 ≤ c ∧ c ≤ 57
  · rw [decide_eq_true h.1, decide_eq_true h.2]
    have : c = 48 ∨ c = 49 ∨ c = 50 ∨ c = 51 ∨ c = 52 ∨ c = 53 ∨ c = 54 ∨ c = 55 ∨ c = 56 ∨ c = 57 := by omega
    rcases this with rfl | rfl | rfl | rfl | rfl | rfl | rfl | rfl | rfl | rfl <;> rfl
  · have e : (decide (48 ≤ c) && decide (c ≤ 57)) = false := by
      rw [← Bool.not_eq_true]
      intro z
      simp only [Bool.and_eq_true, decide_eq_true_eq] at z
      exact h z
    rw [e]
    refine decide_eq_false fun hm => ?_
    simp only [List.mem_cons, List.not_mem_nil, or_false] at hm
    omega
theorem eqV_str (x y : Str) : eqV (.str x) (.str y) = (x == y) := rfl
theorem inV_strs (x : Str) : ∀ ys : List Str, inV (.str x) (ys.map V.str) = decide (x ∈ ys)
  | [] => by simp [inV]
  | y :: ys => by
    have ih := inV_strs x ys
    unfold inV at ih ⊢
    rw [List.map_cons, List.any_cons, ih, eqV_str]
    by_cases e : y = x
    · simp [e]
    · have e2 : ¬ x = y := fun z => e z.symm
      simp [e, e2]
theorem flat_strs : ∀ ys : List Str, (ys.map V.str).all flatV = true
  | [] => rfl
  | _ :: ys => by
    rw [List.map_cons, List.all_cons, flat_strs ys]
    rfl
theorem kn_nodup : KN.Nodup := by decide +kernel
theorem knIdx_get {x : Str} (h : x ∈ KN) : KN[knIdx x]? = some x := by
  have h1 : knIdx x < KN.length := List.findIdx_lt_length_of_exists ⟨x, h, by simp⟩
  have h2 := List.findIdx_getElem (w := h1)
  rw [List.getElem?_eq_getElem h1]
  exact congrArg some (by unfold knIdx; simpa using h2)
theorem knIdx_first {x : Str} {m : Nat} (h : m < knIdx x) : KN[m]? ≠ some x := by
  intro e
  have h2 := List.not_of_lt_findIdx h
  have h3 := (List.getElem?_eq_some_iff.mp e).2
  simp [h3] at h2
end G
namespace G
open PySem PySem.Spec PyProof.Rows L2 TL
theorem tl_blank : tl (" " : Str) = 32 :: [] := by decide +kernel
theorem part_cases (x : Str) : (32 ∉ tl x ∧ Txt.partition x " " = (x, Str.empty, Str.empty)) ∨ ∃ a b : Str, x = a ++ " " ++ b ∧ 32 ∉ tl a ∧ Txt.partition x " " = (a, (" " : Str), b) := by
  by_cases h : 32 ∈ tl x
  · obtain ⟨l, r, e, hl⟩ := List.eq_append_cons_of_mem h
    refine .inr ⟨⟨l.toArray⟩, ⟨r.toArray⟩, ?_, ?_, ?_⟩
    · refine ext_tl ?_
      rw [tl_append, tl_append, tl_blank, e]
      show l ++ 32 :: r = (l ++ [32]) ++ r
      simp
    · exact hl
    · have e2 : x = (⟨l.toArray⟩ : Str) ++ " " ++ (⟨r.toArray⟩ : Str) := by
        refine ext_tl ?_
        rw [tl_append, tl_append, tl_blank, e]
        show l ++ 32 :: r = (l ++ [32]) ++ r
        simp
      rw [e2]
      exact partition_app tl_blank hl
  · exact .inl ⟨h, partition_none tl_blank h⟩
theorem part_len (x : Str) : (Txt.partition x " ").2.2.length ≤ x.length := by
  rcases part_cases x with ⟨_, e⟩ | ⟨a, b, ex, _, e⟩
  · rw [e]
    exact Nat.zero_le _
  · rw [e, ex, Str.length_append, Str.length_append]
    show b.length ≤ _
    omega
theorem numL_head : ∀ (k n : Nat), n ≤ k → 0 < n → ∃ c r, numL n = c :: r ∧ 49 ≤ c
  | 0, n, h, h0 => by omega
  | k + 1, n, h, h0 => by
    by_cases h10 : n < 10
    · exact ⟨_, _, numL_lt h10, by omega⟩
    · obtain ⟨c, r, e, hc⟩ := numL_head k (n / 10) (by omega) (by omega)
      exact ⟨c, r ++ [48 + n % 10], by rw [numL_step (by omega), e]; rfl, hc⟩
theorem isDig_of {l : List Nat} (h : NumText.AllDigits l) : l.all isDig = true := by
  refine List.all_eq_true.mpr fun c hc => ?_
  have h2 := h c hc
  simp only [isDig, Bool.and_eq_true, decide_eq_true_eq]
  exact h2
theorem tl_zero : tl ("0" : Str) = [48] := by decide +kernel
/-- figures as str writes them -/
theorem figs_num {n m : Nat} (hl : (numL n).length ≤ m) : figsIn (Str.ofString (toString (n : Int))) (m : Int) = some (n : Int) := by
  have e := tl_num n
  have hlen : (Str.ofString (toString (n : Int))).length = (numL n).length := by rw [len_tl, e]
  have hpos : 1 ≤ (numL n).length := List.length_pos_iff.mpr (numL_ne n)
  have ec : (Str.ofString (toString (n : Int))).cps.toList = numL n := e
  unfold figsIn
  rw [hlen, ec, isDig_of (numL_digits n), decide_eq_true (show (1 : Int) ≤ ((numL n).length : Nat) by omega), decide_eq_true (show (((numL n).length : Nat) : Int) ≤ (m : Nat) by omega)]
  simp only [Bool.and_self, ↓reduceIte]
  rw [if_neg, numL_val]
  rintro ⟨h1, h2⟩
  by_cases h0 : n = 0
  · subst h0
    exact h2 (by decide +kernel)
  · obtain ⟨c, r, e2, hc⟩ := numL_head n n (Nat.le_refl _) (by omega)
    rw [e2] at h1
    have := Option.some.inj h1
    omega
/-- the row of a word, read -/
theorem kn_free : ∀ k < 16, 32 ∉ tl (KN.getD k Str.empty) := by decide +kernel
theorem kn_idx : ∀ k < 16, KN.getD k Str.empty ∈ KN ∧ knIdx (KN.getD k Str.empty) = k := by decide +kernel
theorem empty_app (x : Str) : Str.empty ++ x = x := by
  refine ext_tl ?_
  rw [tl_append]
  rfl
theorem rowIn_parts {k n : Nat} (hk : k < 16) (hn : n ≤ 4095) : rowIn (KN.getD k Str.empty ++ " " ++ Str.ofString (toString (n : Int))) = some ((k : Int) * 4096 + n) := by
  unfold rowIn
  rw [partition_app tl_blank (kn_free k hk)]
  have h4 : (numL n).length ≤ 4 := numL_len (by decide) (by omega)
  have h5 := figs_num (m := 4) h4
  simp only
  rw [show ((4 : Nat) : Int) = 4 from rfl] at h5
  rw [h5]
  simp only
  rw [if_pos ⟨(kn_idx k hk).1, by decide +kernel, by omega⟩, (kn_idx k hk).2]
theorem rowT_eq {i : Int} (h0 : 0 ≤ i) (h1 : i ≤ 65535) : rowT i = KN.getD (i / 4096).toNat Str.empty ++ " " ++ Str.ofString (toString (((i % 4096).toNat : Nat) : Int)) := by
  unfold rowT
  rw [empty_app, Int.toNat_of_nonneg (Int.emod_nonneg _ (by decide))]
theorem rowIn_rowT {i : Int} (h0 : 0 ≤ i) (h1 : i ≤ 65535) : rowIn (rowT i) = some i := by
  rw [rowT_eq h0 h1, rowIn_parts (by omega) (by omega)]
  congr 1
  omega
theorem rowT_len {i : Int} (h0 : 0 ≤ i) (h1 : i ≤ 65535) : (rowT i).length ≤ 12 := by
  rw [rowT_eq h0 h1, Str.length_append, Str.length_append]
  have e2 : ∀ n : Nat, n < 16 → (KN.getD n Str.empty).length ≤ 5 := by decide +kernel
  have e3 := e2 (i / 4096).toNat (by omega)
  have e4 : (Str.ofString (toString (((i % 4096).toNat : Nat) : Int))).length ≤ 4 := by
    rw [len_tl, tl_num]
    exact numL_len (by decide) (by omega)
  have l1 : (" " : Str).length = 1 := rfl
  omega
end G
namespace G
open PySem PySem.Spec PyProof.Rows L2
/-! ### enumerate over a tuple, over a text -/
open Sem (wp) in
open AutoSeq1 (wpAny_loadPart') in
theorem meets_enum_tup (l : Addr) (items : Array Value) (n : Nat) (dct : Option Addr) (sl : Array (Option Value)) :
    Meets (Builtin.«enumerate.__new__» ⟨[.type "enumerate", .ref l], []⟩) (fun _ R s => s.heap.get? l = some { cls := .type "tuple", dict := dct, data := .seq items n, slots := sl } ∧
      R (.ok (.ret (.ref (s.heap.push { cls := .type "tuple_iterator", data := .fields #[.ref l, .int 0 0] }).objs.size)))
        { s with heap := (s.heap.push { cls := .type "tuple_iterator", data := .fields #[.ref l, .int 0 0] }).push { cls := .type "enumerate", data := .fields #[.none, .bool false, .ref s.heap.objs.size, rawInt 0, .none, .none] } }) :=
  .of_wp fun prog w A R s h => by
    obtain ⟨hp, g, d, tk, os⟩ := s
    obtain ⟨hl, h⟩ := h
    have hsub := sub_enumerate
    have hL : Heap.IsTuple (Shared.heap ⟨hp, g, d, tk, os⟩) l items := ⟨_, hl, rfl, n, rfl⟩
    wp_walk using wpAny_loadPart' hl
    refine wpAny_stack_any fun st => wpAny_pure ?_
    split
    · rename_i c _ _ _ _ _
      cases (c == Value.type "enumerate") <;>
        (wp_walk using wpAny_loadPart' hl, wpAny_pyIter_tuple hL
         exact ⟨_, rfl, h⟩)
    · wp_walk using wpAny_loadPart' hl, wpAny_pyIter_tuple hL
      exact ⟨_, rfl, h⟩
theorem call_enum_tup {prog : Program} {w : World} {A : Around} {E : Value → Shared → Prop} {s : Shared} {l : Addr} {items : Array Value} {Q : Value → Shared → Prop} (hL : s.heap.IsTuple l items)
    (h : ∀ h', IsEnum h' (s.heap.objs.size + 1) s.heap.objs.size 0 .none → h'.IsTupleIter s.heap.objs.size l 0 → h'.objs.size = s.heap.objs.size + 2 →
      (∀ b o, s.heap.get? b = some o → h'.get? b = some o) → Q (.ref (s.heap.objs.size + 1)) { s with heap := h' }) :
    wpAny (model prog w) A (call (.type "enumerate") [.ref l]) Q E s := by
  obtain ⟨⟨c, dct, dt, sl⟩, hl, hc, n, hd⟩ := hL
  cases (show c = .type "tuple" from hc)
  cases (show dt = .seq items n from hd)
  refine callType_new F.called_enumerate (by decide) (F.typeCall_enumerate_1 _) (F.newCall_enumerate_1 _) (fun obj => F.args_object_init_2 obj _) F.entry_enumerate_new (meets_enum_tup l items n dct sl) ⟨hl, ?_⟩
  generalize ho : ({ cls := .type "tuple_iterator", data := .fields #[.ref l, .int 0 0] } : Obj) = oi
  have hfr : oi.isFreed = false := by rw [← ho]; rfl
  have hz : (s.heap.push oi).objs.size = s.heap.objs.size + 1 := Heap.size_push ..
  show _ ∧ _
  rw [hz]
  generalize hoe : ({ cls := .type "enumerate", data := .fields #[.none, .bool false, .ref s.heap.objs.size, rawInt 0, .none, .none] } : Obj) = oe
  have g2 : ((s.heap.push oi).push oe).get? (s.heap.objs.size + 1) = some oe := by
    have := Heap.get?_push_size (s.heap.push oi) (o := oe) (by rw [← hoe]; rfl)
    rwa [hz] at this
  have he : IsEnum ((s.heap.push oi).push oe) (s.heap.objs.size + 1) s.heap.objs.size 0 .none := by
    rw [← hoe] at g2 ⊢
    exact g2
  have hi : ((s.heap.push oi).push oe).get? s.heap.objs.size = some oi := Heap.get?_push_of_some _ (Heap.get?_push_size _ hfr)
  refine ⟨⟨_, he, rfl⟩, h _ he ⟨oi, hi, by rw [← ho], by rw [← ho]; rfl⟩ (by rw [Heap.size_push, hz]) fun b o x => Heap.get?_push_of_some _ (Heap.get?_push_of_some _ x)⟩

/-- what an enumerate gives out at turn i: a new pair of the number and an item that yl tells -/
def Itn (go : Nat → Hp → Prop) (yl : Nat → Hp → V → Prop) (stop : Nat → Hp → Prop) : It :=
  ⟨go, fun i H v H' => ∃ T x, v = .ref T ∧ H T = none ∧ H' = upd H T (.tup [.int (i : Nat), x]) ∧ yl i H x, stop⟩
/-- the turn of an enumerate over whatever draws -/
theorem turn_enumG {P : Program} {w : World} {K : PySem.W.Frag} {elts : List Expr} {kk : Nat} {tpos : Pos} (e it : Addr) {go : Nat → Hp → Prop} {yl : Nat → Hp → V → Prop} {stop : Nat → Hp → Prop} (itn : Nat → Heap → Prop)
    (hobj : ∀ i h, itn i h → ∃ o n vs, h.get? it = some o ∧ o.cls = .type n ∧ n ≠ "enumerate" ∧ o.data = .fields vs)
    (hkeep : ∀ i h h', itn i h → (∀ o, h.get? it = some o → h'.get? it = some o) → itn i h')
    (hgo : ∀ (X : Cx), X.prog = P → X.w = w → X.K = K → ∀ (i : Nat) (pins : List (Addr × Obj)) (s : Shared) (σ : L2.St) (H : Hp), Inv X pins σ H s → itn i s.heap → go i H →
      ∃ (fp : List Addr) (n : Nat) (Pd : Nat → Value → Prop) (St : Nat → Heap → Prop), (∀ A : Around, A.handled = none → Draws P w A it fp n Pd St) ∧ St i s.heap ∧ i < n ∧ (∀ b ∈ fp, b = it ∨ ∃ o, s.heap.get? b = some o ∧ o.cls ≠ .type "enumerate") ∧
        (∀ v, Pd i v → ∃ x, RelV x v ∧ yl i H x) ∧ ∀ h', St (i + 1) h' → itn (i + 1) h')
    (hstop : ∀ (X : Cx), X.prog = P → X.w = w → X.K = K → ∀ (i : Nat) (pins : List (Addr × Obj)) (s : Shared) (σ : L2.St) (H : Hp), Inv X pins σ H s → itn i s.heap → stop i H →
      ∃ (fp : List Addr) (Pd : Nat → Value → Prop) (St : Nat → Heap → Prop), (∀ A : Around, A.handled = none → Draws P w A it fp i Pd St) ∧ St i s.heap) :
    Turn P w K (.Tuple elts kk tpos) (Itn go yl stop) [e, it] e (fun i h => (∃ old, IsEnum h e it ((i : Nat) : Int) old) ∧ itn i h) where
  mem := List.mem_cons_self
  obj := by
    rintro i h ⟨⟨old, he⟩, hi⟩ b hb
    rcases List.mem_cons.mp hb with z | hb
    · rw [z]
      exact ⟨_, he, fun v q => nomatch q⟩
    · obtain ⟨o, n, vs, ho, _, _, hd⟩ := hobj i h hi
      rw [List.mem_singleton.mp hb]
      exact ⟨o, ho, fun v q => by rw [hd] at q; cases q⟩
  keep := by
    rintro i h h' ⟨⟨old, he⟩, hi⟩ k
    exact ⟨⟨old, k e List.mem_cons_self _ he⟩, hkeep i h h' hi (k it (List.mem_cons_of_mem _ List.mem_cons_self))⟩
  item := by
    intro X hP hw hK hc i pins s σ H E I hf st hg
    obtain ⟨⟨old, he⟩, hi⟩ := st
    obtain ⟨fp, n, Pd, St, D, hst, hlt, hfp, hyl, hnx⟩ := hgo X hP hw hK i pins s σ H I hi hg
    subst hP hw hK
    obtain ⟨oi, ni, vs, hoi, hci, hni, hdi⟩ := hobj i _ hi
    have hne : e ≠ it := by
      intro z
      subst z
      rw [show s.heap.get? e = some _ from he] at hoi
      cases hoi
      exact hni (Value.type.inj hci).symm
    have hef : e ∉ fp := by
      intro z
      rcases hfp e z with z | ⟨o, ho, hco⟩
      · exact hne z
      · rw [show s.heap.get? e = some _ from he] at ho
        cases ho
        exact hco rfl
    have hel : e < s.heap.objs.size := Heap.lt_size he
    have hil : it < s.heap.objs.size := Heap.lt_size hoi
    refine wpAny_pyNext_enum_itemC (D X.A.in1 (I.ok.hd hc)) he hst hlt hne hef fun v h' tk hP ho hs' hT hsz hk => ?_
    obtain ⟨x, rx, hy⟩ := hyl v hP
    refine ⟨_, rfl, wpAny_letOwnedTupleGo_enum (s := { s with heap := h', toks := tk + 1 }) ho fun h2 he2 sb => ?_⟩
    have hT2 : h2.get? s.heap.objs.size = some { cls := .type "tuple", data := .seq #[.int i tk, v] } := (sb.2 _ (Nat.ne_of_gt hel)).trans hT
    have nw : ObjOk X.prog X.w (upd H s.heap.objs.size (.tup [.int (i : Nat), x])) h2 s.heap.objs.size (.tup [.int (i : Nat), x]) :=
      ⟨by show 2 ≤ sizeLine; decide, [.int i tk, v], .cons ⟨_, rfl⟩ (.cons rx .nil), ⟨_, hT2, rfl, _, rfl⟩⟩
    have hb2 : ∀ b ∈ [e, it], b = e ∨ b = it := fun b hb => by simpa using hb
    have I1 := I.turnedNew (t' := tk + 1) (ch := [e, it]) (T := s.heap.objs.size) (fun b ob hb q => (sb.2 b fun z => hb (by rw [z]; exact List.mem_cons_self)).trans
      (hk b ob (fun z => hb (by rw [z]; exact List.mem_cons_self)) (fun z => hb (by rw [z]; exact List.mem_cons_of_mem _ List.mem_cons_self)) q)) hf (Nat.le_refl _) nw
    refine ⟨.ref s.heap.objs.size, _, I1, rfl, ⟨_, x, rfl, I.hok.fresh (Nat.le_refl _), rfl, hy⟩, ⟨⟨v, ?_⟩, ?_⟩, fun b hb => ?_⟩
    · have e1 : ((i + 1 : Nat) : Int) = (i : Int) + 1 := by omega
      rw [e1]
      exact he2
    · exact hkeep _ _ _ (hnx h' hs') fun o q => (sb.2 it (Ne.symm hne)).trans q
    · have hb' : b < s.heap.objs.size := by
        rcases hb2 b hb with z | z
        · rw [z]; exact hel
        · rw [z]; exact hil
      rw [upd_ne (Nat.ne_of_lt hb')]
      exact (hf b hb).1
  done := by
    intro X hP hw hK hc i pins s σ H E I hf st hg
    obtain ⟨⟨old, he⟩, hi⟩ := st
    obtain ⟨fp, Pd, St, D, hst⟩ := hstop X hP hw hK i pins s σ H I hi hg
    subst hP hw hK
    obtain ⟨f0, f1, f2, f3, f4, f5⟩ := hf it (List.mem_cons_of_mem _ List.mem_cons_self)
    exact wpAny_pyNext_enum_endD (D X.A.in1 (I.ok.hd hc)) he hst fun h' eb => ⟨rfl, I.turned (t' := s.toks) (fun b o hb q => eb b o hb q) f0 f1 f3 f4 f5⟩
  self := fun A i s Q E st h => let ⟨⟨_, he⟩, _⟩ := st; wpAny_pyIter_enum he h

/-- over the tuple at a -/
def IteT (K : PySem.W.Frag) (a : Addr) : It :=
  Itn (fun i H => ∃ (xs : List V) (x : V), SqT K H a xs ∧ xs[i]? = some x) (fun i H x => ∀ xs, SqT K H a xs → xs[i]? = some x) (fun i H => ∃ xs : List V, SqT K H a xs ∧ xs.length = i)
theorem turn_enumT {P : Program} {w : World} {K : PySem.W.Frag} {elts : List Expr} {kk : Nat} {tpos : Pos} (a e it : Addr) :
    Turn P w K (.Tuple elts kk tpos) (IteT K a) [e, it] e (fun i h => (∃ old, IsEnum h e it ((i : Nat) : Int) old) ∧ h.IsTupleIter it a i) := by
  refine turn_enumG e it (fun i h => h.IsTupleIter it a i) ?_ ?_ ?_ ?_
  · rintro i h ⟨o, ho, hc, hd⟩
    exact ⟨o, _, _, ho, hc, by decide, hd⟩
  · exact fun i h h' x k => x.at k
  · intro X hP hw hK i pins s σ H I hi ⟨xs, x, hq, hx⟩
    subst hP hw hK
    obtain ⟨its, rv, p, hz⟩ := I.tuple hq
    have p' : s.heap.IsTuple a its.toArray := p
    have hai : a ≠ it := by
      intro z
      obtain ⟨o, ho, hc, _⟩ := hi
      obtain ⟨o2, ho2, hc2, _⟩ := p'
      rw [z, ho] at ho2
      cases ho2
      rw [hc] at hc2
      exact absurd (Value.type.inj hc2) (by decide)
    have hl := rv.length
    have hxl := (List.getElem?_eq_some_iff.mp hx).1
    refine ⟨_, _, _, _, fun A hA => Draws.tuple hA it a hai its.toArray, ⟨hi, p'⟩, by rw [List.size_toArray]; omega, fun b hb => ?_, fun v hv => ?_, fun h' z => z.1⟩
    · have hb' : b = it ∨ b = a := by simpa using hb
      rcases hb' with z | z
      · exact .inl z
      · obtain ⟨o2, ho2, hc2, _⟩ := p'
        exact .inr ⟨o2, by rw [z]; exact ho2, by rw [hc2]; intro q; exact absurd (Value.type.inj q) (by decide)⟩
    · obtain ⟨u, hu, ru⟩ := rv.get hx
      have hv' : its[i]? = some v := by simpa using hv
      rw [hu] at hv'
      cases hv'
      exact ⟨x, ru, fun ys hy => by rw [I.tuple_inj hy hq]; exact hx⟩
  · intro X hP hw hK i pins s σ H I hi ⟨xs, hq, hx⟩
    subst hP hw hK
    obtain ⟨its, rv, p, hz⟩ := I.tuple hq
    have p' : s.heap.IsTuple a its.toArray := p
    have hai : a ≠ it := by
      intro z
      obtain ⟨o, ho, hc, _⟩ := hi
      obtain ⟨o2, ho2, hc2, _⟩ := p'
      rw [z, ho] at ho2
      cases ho2
      rw [hc] at hc2
      exact absurd (Value.type.inj hc2) (by decide)
    have hl : its.toArray.size = i := by rw [List.size_toArray, ← rv.length, hx]
    subst hl
    exact ⟨_, _, _, fun A hA => Draws.tuple hA it a hai its.toArray, ⟨hi, p'⟩⟩
def iEnumT (K : PySem.W.Frag) (ta : TA) : TI := fun σ H R => ta σ H fun vs H1 => ∃ a xs, vs = [.ref a] ∧ SqT K H1 a xs ∧ R (IteT K a) H1
theorem pi_enumT {X : Cx} {e : Expr} {ta : TA} {p pos tpos : Pos} {elts : List Expr} {kk : Nat} (hg : Gl X "enumerate") (hm : X.mg "enumerate" = none) (ha : PA X [e] ta) (hs : starEach [e] X.env = [(false, eval e X.env)] := by rfl) :
    PI X (.Tuple elts kk tpos) (.Call (.Name "enumerate" p) [e] [] pos) (iEnumT X.K ta) := by
  refine ⟨fun pins s σ H R I h => Call_ (ld_blt I hg hm boot_enumerate (PyProof.Rows.callWith_type1 (thn (ha.run pos pins s σ H _ I h) ?_) hs rfl))⟩
  rintro us s1 ⟨vs, H1, I1, r1, a, xs, ex, hq, q⟩
  subst ex
  obtain ⟨u, rfl, ru⟩ := vals1 r1
  cases ru
  obtain ⟨its, rv, p', hz⟩ := I1.tuple hq
  refine call_enum_tup (show s1.heap.IsTuple a its.toArray from p') fun h' he hit hsz hk => wpAny_pyIter_enum he ?_
  refine ⟨s1.heap.objs.size + 1, [s1.heap.objs.size + 1, s1.heap.objs.size], _, _, H1, rfl, I1.kept (t' := s1.toks) hk, turn_enumT a _ _, ⟨⟨.none, he⟩, hit⟩, fun b hb => ?_, q⟩
  have hle : s1.heap.objs.size ≤ b := by
    have e' : b = s1.heap.objs.size + 1 ∨ b = s1.heap.objs.size := by simpa using hb
    rcases e' with z | z
    · rw [z]; exact Nat.le_add_right _ _
    · rw [z]; exact Nat.le_refl _
  exact I1.fpOk hle (I1.hok.fresh hle)
theorem walk_enumT {K : PySem.W.Frag} {a : Addr} {xs : List V} : Walk (IteT K a) xs.length (fun H => SqT K H a xs) (YPair (fun i => some (.int (i : Nat))) (fun i => xs[i]?)) :=
  ⟨fun i _ hi q => ⟨xs, xs[i], q, by simp [hi]⟩, fun _ q => ⟨xs, q, rfl⟩, fun i H v H' _ q y => by
    obtain ⟨T, x, h1, h2, h3, h4⟩ := y
    exact ⟨T, .int (i : Nat), x, h1, h2, h3, rfl, h4 xs q⟩⟩
end G
namespace G
open PySem PySem.Spec PyProof.Rows L2
theorem sqT_same {K : PySem.W.Frag} {H H' : Hp} {a : Addr} {xs : List V} (e : Same H H') (h : SqT K H a xs) : SqT K H' a xs := by
  rcases h with (h | ⟨o, h⟩) | h
  · exact .inl (.inl (e _ _ h))
  · exact .inl (.inr ⟨o, e _ _ h⟩)
  · exact .inr h
theorem same_upd {H : Hp} {p : Addr} {o : HO} (f : H p = none) : Same H (upd H p o) := fun _ _ e => upd_old e f
theorem sqT_up {K : PySem.W.Frag} {H : Hp} {a p : Addr} {o : HO} {xs : List V} (h : SqT K H a xs) (f : H p = none) : SqT K (upd H p o) a xs := sqT_same (same_upd f) h
theorem tyX_same {K : PySem.W.Frag} {H H' : Hp} {v : V} {t : Value} (e : Same H H') (h : TyX K H v t) : TyX K H' v t := by
  cases h with
  | base h =>
    refine .base ?_
    cases h with
    | non => exact .non
    | bl x => exact .bl x
    | int x => exact .int x
    | str x => exact .str x
    | flt x => exact .flt x
    | lst h => exact .lst (e _ _ h)
    | frz h => exact .frz (e _ _ h)
    | tup h => exact .tup (e _ _ h)
    | dK h => exact .dK (e _ _ h)
    | dT h => exact .dT (e _ _ h)
    | ins h c a b d f => exact .ins (e _ _ h) c a b d f
  | byt b => exact .byt b
  | set h => exact .set (e _ _ h)
  | kList h c => exact .kList h c
  | kTuple h c => exact .kTuple h c
  | kDict h c => exact .kDict h c
  | fTuple h => exact .fTuple (e _ _ h)
  | fDict h => exact .fDict (e _ _ h)
theorem thing_same {K : PySem.W.Frag} {H H' : Hp} {v : V} {n : String} (e : Same H H') (h : Thing K H v n) : Thing K H' v n := by
  cases h with
  | non => exact .non
  | bl b => exact .bl b
  | int i => exact .int i
  | str x => exact .str x
  | lst h => exact .lst (tyX_same e h)
  | tup h => exact .tup (tyX_same e h)
  | dict h => exact .dict (tyX_same e h)
theorem thing_tup {K : PySem.W.Frag} {H : Hp} {a : Addr} {xs : List V} (h : SqT K H a xs) : Thing K H (.ref a) "tuple" := by
  refine .tup ?_
  rcases h with (h | ⟨o, h⟩) | ⟨o, its, n, h1, h2, _⟩
  · exact .base (.tup h)
  · exact .fTuple h
  · exact .kTuple h1 h2
theorem thing_lst {K : PySem.W.Frag} {H : Hp} {a : Addr} {xs : List V} (h : SqL K H a xs) : Thing K H (.ref a) "list" := by
  refine .lst ?_
  rcases h with (h | ⟨o, h⟩) | ⟨o, its, n, h1, h2, _⟩
  · exact .base (.lst h)
  · exact .base (.frz h)
  · exact .kList h1 h2
/-! ### images -/
def leadB (i : Int) : Bool := decide (i / 4096 = 8) || decide (i / 4096 = 9) || decide (i / 4096 = 10) || decide (i / 4096 = 13) || decide (i / 4096 = 14)
def leadsV (n : Int) : V → Bool
  | .int i => !leadB i || decide (i % 4096 < n)
  | _ => false
/-- is it an image, by its items? -/
def imgB (xs : List V) : Bool := decide (1 ≤ (xs.length : Int)) && (decide ((xs.length : Int) ≤ 1000) && (xs.all (fun v => btwV v 0 65535) && xs.all (leadsV xs.length)))
theorem inV_lead (i : Int) : inV (.int (i / 4096)) [.int 8, .int 9, .int 10, .int 13, .int 14] = leadB i := by
  simp only [inV, List.any_cons, List.any_nil, eqV, leadB, Bool.or_false, Bool.or_assoc]
  have h : ∀ k : Int, (k == i / 4096) = decide (i / 4096 = k) := fun k => by
    by_cases e : i / 4096 = k
    · rw [e]; simp
    · have e2 : ¬ k = i / 4096 := fun z => e z.symm
      simp [e, e2]
  simp only [h]
theorem all_bl (bs : List Bool) : (bs.map V.bl).length = bs.length := List.length_map ..
end G
namespace G
open PySem PySem.Spec PyProof.Rows L2 TL
/-- a statement that is not reached -/
theorem ps_never {X : Cx} {st : Stmt} : PS X st fun _ _ _ => False := ⟨fun _ _ _ _ _ _ h => h.elim⟩
/-- a comprehension that gives ys, whatever new things are made on the way -/
theorem lc_mapS {J : It} {n : Nat} {Gs : Hp → Prop} {Y : Nat → Hp → V → Hp → Prop} (w : Walk J n Gs Y) {g : TG} {te : TE} {vs : List Nat} {σ : L2.St} {H1 : Hp} {D : Addr} {Qd : Hp → Prop} (ys : List V) (hn : ys.length = n) (hz : n ≤ sizeLine)
    (hD : H1 D = none) (hG : ∀ H, Same H1 H → Gs H)
    (hs : ∀ i x H H' (R : V → Hp → Prop), i < n → Same H1 H → Y i H x H' → (∀ y H2, ys[i]? = some y → Same H H2 → R y H2) → g x (wipe σ vs) H' fun σ2 H2 => wipe σ2 vs = wipe σ vs ∧ te σ2 H2 R)
    (hd : ∀ H, Same H1 H → H D = some (.lst ys) → Qd H) :
    ∃ W : Nat → Nat → Hp → Prop, (∃ m, W 0 m (upd H1 D (.lst []))) ∧ ∀ i m H, W i m H →
      (J.stop i H ∧ Qd H) ∨ (J.go i H ∧ ∃ Nx : Hp → Prop, (∀ H', Nx H' → ∃ m', m' < m ∧ W (i + 1) m' H') ∧ ∀ x H', J.yld i H x H' → g x (wipe σ vs) H' fun σ2 H2 => wipe σ2 vs = wipe σ vs ∧ tYes σ2 H2 fun b H3 =>
        if b = true then te σ2 H3 fun y H4 => ∃ acc, H4 D = some (.lst acc) ∧ acc.length < sizeLine ∧ Nx (upd H4 D (.lst (acc ++ [y]))) else Nx H3) := by
  refine lc_it w (fun i H => Same H1 H ∧ H D = some (.lst (ys.take i))) ⟨same_upd hD, by simp [upd_same]⟩ (fun i H _ e => hG _ e.1) (fun i x H H' hi e y => ?_) (fun H e => hd H e.1 (by rw [e.2, ← hn, List.take_length]))
  simp only [tYes, ↓reduceIte]
  refine hs i x H H' _ hi e.1 y fun v H2 hv hS => ?_
  have hl : (ys.take i).length = i := by rw [List.length_take]; omega
  refine ⟨ys.take i, hS _ _ e.2, by rw [hl]; omega, fun b o h => ?_, ?_⟩
  · have hb : b ≠ D := fun z => by rw [z, hD] at h; cases h
    rw [upd_ne hb]
    exact hS _ _ (e.1 _ _ h)
  · rw [upd_same, List.take_succ, hv]
    rfl
/-! ### cuts -/
theorem cut_after (a b : Str) : cutS (a ++ b) (some (a.length : Int)) none = b := by
  refine ext_tl ?_
  show (((a ++ b).cps.toList.drop (HT.sIx (a ++ b).length 0 (some (a.length : Int)))).take _) = tl b
  have e1 : (a ++ b).cps.toList = tl a ++ tl b := tl_append a b
  have e2 : (a ++ b).length = a.length + b.length := Str.length_append ..
  rw [HT.sIx_none, HT.sIx_nat, e1, e2, Nat.min_eq_left (by omega), len_tl a, List.drop_left, List.take_of_length_le]
  rw [← len_tl b]
  omega
theorem cut_tail (x c : Str) (h : c.length = 1) : cutS (x ++ c) (some (-1)) none = c := by
  refine ext_tl ?_
  show (((x ++ c).cps.toList.drop (HT.sIx (x ++ c).length 0 (some (-1)))).take _) = tl c
  have e1 : (x ++ c).cps.toList = tl x ++ tl c := tl_append x c
  have e2 : (x ++ c).length = x.length + 1 := by rw [Str.length_append, h]
  have e3 : HT.sIx (x.length + 1) 0 (some (-1)) = x.length := by
    show (if (-1 : Int) < 0 then ((-1 : Int) + ((x.length + 1 : Nat) : Int)).toNat else min (-1 : Int).toNat (x.length + 1)) = x.length
    rw [if_pos (by decide)]
    omega
  rw [HT.sIx_none, e1, e2, e3, len_tl x, List.drop_left, List.take_of_length_le]
  rw [← len_tl c, h]
  omega
theorem cut_init (x c : Str) (h : c.length = 1) : cutS (x ++ c) none (some (-1)) = x := by
  refine ext_tl ?_
  show (((x ++ c).cps.toList.drop (HT.sIx (x ++ c).length 0 none)).take (HT.sIx (x ++ c).length (x ++ c).length (some (-1)) - HT.sIx (x ++ c).length 0 none)) = tl x
  have e1 : (x ++ c).cps.toList = tl x ++ tl c := tl_append x c
  have e2 : (x ++ c).length = x.length + 1 := by rw [Str.length_append, h]
  have e3 : HT.sIx (x.length + 1) (x.length + 1) (some (-1)) = x.length := by
    show (if (-1 : Int) < 0 then ((-1 : Int) + ((x.length + 1 : Nat) : Int)).toNat else min (-1 : Int).toNat (x.length + 1)) = x.length
    rw [if_pos (by decide)]
    omega
  rw [HT.sIx_none, e1, e2, e3, Nat.sub_zero, len_tl x, List.drop_zero, List.take_left]
/-! ### the list of an image -/
/-- a line's head, a line -/
def aheadOf (i : Nat) : Str := (Str.empty ++ Str.ofString (toString (i : Int))) ++ " "
def lineOf (i : Nat) (w : Int) : Str := aheadOf i ++ rowT w
def rowsL (ws : List Int) : List Str := ws.mapIdx lineOf
def rowsN (ws : List Int) : List Str := ws.mapIdx fun i w => lineOf i w ++ "\n"
def listT (ws : List Int) : Str := Txt.join "" (rowsN ws)
def Words (ws : List Int) : Prop := ∀ i ∈ ws, 0 ≤ i ∧ i ≤ 65535
theorem rowsN_eq (ws : List Int) : rowsN ws = (rowsL ws).map fun x : Str => x ++ "\n" := by
  refine List.ext_getElem? fun i => ?_
  unfold rowsN rowsL
  rw [List.getElem?_mapIdx, List.getElem?_map, List.getElem?_mapIdx]
  cases ws[i]? <;> rfl
theorem tl_nl : tl ("\n" : Str) = [10] := by decide +kernel
theorem tl_nil : tl ("" : Str) = [] := by decide +kernel
theorem joinL_nl : ∀ ps : List (List Nat), ps ≠ [] → joinL [] (ps.map fun x => x ++ [10]) = joinL [10] ps ++ [10]
  | [], h => absurd rfl h
  | [p], _ => rfl
  | p :: q :: r, _ => by
    have ih := joinL_nl (q :: r) (List.cons_ne_nil _ _)
    show (p ++ [10]) ++ ([] ++ joinL [] ((q :: r).map fun x => x ++ [10])) = (p ++ ([10] ++ joinL [10] (q :: r))) ++ [10]
    rw [ih]
    simp
theorem listT_eq {ws : List Int} (h : ws ≠ []) : listT ws = Txt.join "\n" (rowsL ws) ++ "\n" := by
  refine ext_tl ?_
  unfold listT
  rw [join_eq, tl_join, tl_nil, tl_append, join_eq, tl_join, tl_nl, rowsN_eq, List.map_map]
  have e : (tl ∘ fun x : Str => x ++ "\n") = (fun x : List Nat => x ++ [10]) ∘ tl := by
    funext x
    show tl (x ++ "\n") = tl x ++ [10]
    rw [tl_append, tl_nl]
  rw [e, ← List.map_map]
  refine joinL_nl _ fun z => h ?_
  have : (rowsL ws).length = 0 := by rw [← List.length_map (f := tl), z]; rfl
  unfold rowsL at this
  rw [List.length_mapIdx] at this
  exact List.length_eq_zero_iff.mp this
theorem ahead_len {i : Nat} (h : i < 1000) : (aheadOf i).length ≤ 4 := by
  unfold aheadOf
  rw [empty_app, Str.length_append, len_tl, tl_num]
  have := numL_len (n := i) (k := 3) (by decide) (by omega)
  have l1 : (" " : Str).length = 1 := rfl
  omega
theorem line_len {i : Nat} {w : Int} (h : i < 1000) (hw : 0 ≤ w ∧ w ≤ 65535) : (lineOf i w).length ≤ 16 := by
  unfold lineOf
  rw [Str.length_append]
  have := ahead_len h
  have := rowT_len hw.1 hw.2
  omega
theorem rows_len {ws : List Int} (hl : ws.length ≤ 1000) (hw : Words ws) : ∀ x ∈ rowsN ws, x.length ≤ 17 := by
  intro x hx
  obtain ⟨i, hi, rfl⟩ := List.mem_mapIdx.mp hx
  rw [Str.length_append]
  have := line_len (i := i) (w := ws[i]) (by omega) (hw _ (List.getElem_mem hi))
  have l1 : ("\n" : Str).length = 1 := rfl
  omega
theorem rowsL_len {ws : List Int} (hl : ws.length ≤ 1000) (hw : Words ws) : ∀ x ∈ rowsL ws, x.length ≤ 17 := by
  intro x hx
  obtain ⟨i, hi, rfl⟩ := List.mem_mapIdx.mp hx
  have := line_len (i := i) (w := ws[i]) (by omega) (hw _ (List.getElem_mem hi))
  omega
theorem sum_le {l : List Nat} {k : Nat} (h : ∀ x ∈ l, x ≤ k) : l.sum ≤ l.length * k := by
  induction l with
  | nil => simp
  | cons a l ih =>
    have h1 := h a List.mem_cons_self
    have h2 := ih fun x hx => h x (List.mem_cons_of_mem _ hx)
    rw [List.sum_cons, List.length_cons, Nat.succ_mul]
    omega
theorem sum_lens {xs : List Str} {k : Nat} (h : ∀ x ∈ xs, x.length ≤ k) : (xs.map (·.length)).sum ≤ xs.length * k := by
  have := sum_le (l := xs.map (·.length)) (k := k) fun x hx => by
    obtain ⟨y, hy, rfl⟩ := List.mem_map.mp hx
    exact h y hy
  rwa [List.length_map] at this
theorem rowsN_n (ws : List Int) : (rowsN ws).length = ws.length := List.length_mapIdx
theorem rowsL_n (ws : List Int) : (rowsL ws).length = ws.length := List.length_mapIdx
theorem rowsN_at (ws : List Int) (i : Nat) : (rowsN ws)[i]? = (ws[i]?).map fun w => lineOf i w ++ "\n" := List.getElem?_mapIdx
theorem rowsL_at (ws : List Int) (i : Nat) : (rowsL ws)[i]? = (ws[i]?).map fun w => lineOf i w := List.getElem?_mapIdx
theorem join_len (sep : Str) (xs : List Str) : (Txt.join sep xs).length ≤ (xs.map (·.length)).sum + xs.length * sep.length := by
  rw [join_eq]
  exact StrLaws.join_length_le sep xs
theorem listT_len {ws : List Int} (hl : ws.length ≤ 1000) (hw : Words ws) : (listT ws).length ≤ 17000 := by
  have h1 := join_len "" (rowsN ws)
  have h2 := sum_lens (rows_len hl hw)
  rw [rowsN_n] at h1 h2
  rw [show ("" : Str).length = 0 from rfl, Nat.mul_zero] at h1
  unfold listT
  omega
/-- the lines of a list -/
theorem line_no {i : Nat} {w : Int} (hw : 0 ≤ w ∧ w ≤ 65535) : 10 ∉ tl (lineOf i w) := by
  unfold lineOf aheadOf
  rw [empty_app, rowT_eq hw.1 hw.2]
  simp only [tl_append, tl_num, tl_blank, List.mem_append, List.mem_singleton]
  have e2 : ∀ n : Nat, n < 16 → 10 ∉ tl (KN.getD n Str.empty) := by decide +kernel
  have h1 := numL_free (n := i) (s := 10) (by decide)
  have h2 := numL_free (n := (w % 4096).toNat) (s := 10) (by decide)
  have h3 := e2 (w / 4096).toNat (by omega)
  simp only [h1, h2, h3, or_false, false_or]
  decide
theorem list_split {ws : List Int} (h : ws ≠ []) (hw : Words ws) : Txt.split (cutS (listT ws) none (some (-1))) "\n" = rowsL ws := by
  rw [listT_eq h, cut_init _ _ rfl]
  refine split_join (s := 10) (S := []) tl_nl (by decide +kernel) (fun z => h ?_) fun x hx => ?_
  · have := congrArg List.length z
    rw [rowsL_n] at this
    exact List.length_eq_zero_iff.mp this
  · obtain ⟨i, hi, rfl⟩ := List.mem_mapIdx.mp hx
    exact line_no (hw _ (List.getElem_mem hi))
end G
namespace G
open PySem PySem.Spec PyProof.Rows L2
theorem imgB_ws {xs : List V} (h : imgB xs = true) : ∃ ws : List Int, xs = ws.map V.int ∧ Words ws ∧ ws.length ≤ 1000 ∧ ws ≠ [] := by
  unfold imgB at h
  simp only [Bool.and_eq_true, decide_eq_true_eq] at h
  obtain ⟨h1, h2, h3, _⟩ := h
  have all : ∀ ys : List V, (ys.all fun v => btwV v 0 65535) = true → ∃ ws : List Int, ys = ws.map V.int ∧ Words ws := by
    intro ys
    induction ys with
    | nil => exact fun _ => ⟨[], rfl, fun _ hx => absurd hx List.not_mem_nil⟩
    | cons v ys ih =>
      intro h
      rw [List.all_cons, Bool.and_eq_true] at h
      obtain ⟨k, rfl, hk⟩ := btwV_ex h.1
      obtain ⟨ws, rfl, hw⟩ := ih h.2
      exact ⟨k :: ws, rfl, fun x hx => (List.mem_cons.mp hx).elim (fun e => e ▸ hk) (hw x)⟩
  obtain ⟨ws, rfl, hw⟩ := all xs h3
  rw [List.length_map] at h1 h2
  exact ⟨ws, rfl, hw, by omega, fun z => by rw [z] at h1; simp at h1⟩
end G
namespace G
open PySem PySem.Spec PyProof.Rows L2
theorem imgB_len {ws : List Int} (h : imgB (ws.map V.int) = true) : ws.length ≤ 1000 ∧ ws ≠ [] := by
  unfold imgB at h
  simp only [Bool.and_eq_true, decide_eq_true_eq, List.length_map] at h
  exact ⟨by omega, fun z => by rw [z] at h; simp at h⟩
end G
namespace G
open PySem PySem.Spec PyProof.Rows L2
theorem flat_ints : ∀ ws : List Int, (ws.map V.int).all flatV = true
  | [] => rfl
  | w :: ws => by
    rw [List.map_cons, List.all_cons, flat_ints ws]
    rfl
theorem inV_non : ∀ ws : List Int, inV .non (ws.map V.int) = false
  | [] => rfl
  | w :: ws => by
    have ih := inV_non ws
    unfold inV at ih ⊢
    rw [List.map_cons, List.any_cons, ih]
    rfl
theorem imgB_lead {ws : List Int} (h : imgB (ws.map V.int) = true) {w : Int} (hw : w ∈ ws) (hl : leadB w = true) : w % 4096 < ws.length := by
  unfold imgB at h
  simp only [Bool.and_eq_true, decide_eq_true_eq, List.length_map] at h
  have h4 := List.all_eq_true.mp h.2.2.2 (.int w) (List.mem_map_of_mem hw)
  simp only [leadsV, hl, Bool.not_true, Bool.false_or, decide_eq_true_eq] at h4
  exact h4
end G
namespace G
open PySem PySem.Spec PyProof.Rows L2
theorem imgB_of {ws : List Int} (h : Words ws) (h1 : 1 ≤ ws.length) (h2 : ws.length ≤ 1000) (hl : ∀ w ∈ ws, leadB w = true → w % 4096 < ws.length) : imgB (ws.map V.int) = true := by
  unfold imgB
  simp only [Bool.and_eq_true, decide_eq_true_eq, List.length_map]
  refine ⟨by omega, by omega, List.all_eq_true.mpr fun v hv => ?_, List.all_eq_true.mpr fun v hv => ?_⟩
  · obtain ⟨w, hw, rfl⟩ := List.mem_map.mp hv
    exact btwV_int (h w hw)
  · obtain ⟨w, hw, rfl⟩ := List.mem_map.mp hv
    simp only [leadsV]
    cases e : leadB w with
    | false => rfl
    | true => simpa using hl w hw e
end G
namespace G
open PySem PySem.Spec PyProof.Rows L2
theorem ints_inj : ∀ {ws ws' : List Int}, ws.map V.int = ws'.map V.int → ws = ws'
  | [], [], _ => rfl
  | [], _ :: _, h => nomatch h
  | _ :: _, [], h => nomatch h
  | w :: ws, w' :: ws', h => by
    rw [List.map_cons, List.map_cons] at h
    obtain ⟨h1, h2⟩ := List.cons.inj h
    cases h1
    rw [ints_inj h2]
theorem dpT_ints {K : PySem.W.Frag} {H : Hp} {a : Addr} {ns : List Int} (h : SqT K H a (ns.map V.int)) : Dp K H (.ref a) (.tuple (ns.map .int)) := .tup h (dpAll_ints ns)
theorem fineT_ints {ns : List Int} (h : ∀ n ∈ ns, n.natAbs < 10 ^ 12) (l : ns.length ≤ 500000) : fine (.tuple (ns.map .int)) = true ∧ (PyData.tuple (ns.map .int)).depth ≤ 60 ∧ (PyData.tuple (ns.map .int)).bulk ≤ 2 ^ 20 := by
  have h1 := bulkAll_ints ns
  refine ⟨by simpa only [fine] using fineAll_ints h, ?_, ?_⟩
  · simp only [PyData.depth, depthAll_ints]
    decide
  · simp only [PyData.bulk]
    have : (2 : Nat) ^ 20 = 1048576 := by decide
    omega
theorem shapedT_ints (ns : List Int) : SeqAt.shaped (.tuple (ns.map .int)) = true :=
  shaped_of (by simpa only [PyData.canLay0] using canLay_ints ns) (by simp only [PyData.depth, depthAll_ints]; decide)
theorem words_fine {ws : List Int} (h : Words ws) : ∀ n ∈ ws, n.natAbs < 10 ^ 12 := fun n hn => by
  obtain ⟨h0, h1⟩ := h n hn
  have : (10 : Nat) ^ 12 = 1000000000000 := by decide
  omega
theorem things_ints {K : PySem.W.Frag} {H : Hp} (ws : List Int) : ∀ x ∈ ws.map V.int, ∃ n, Thing K H x n := fun x h => by
  obtain ⟨i, _, rfl⟩ := List.mem_map.mp h
  exact ⟨_, .int i⟩
end G
/-! ### the heap, looked up -/
local macro_rules | `(tactic| walk_at "hp") => `(tactic| first
  | assumption
  | exact L2.upd_same
  | (refine G.upd_old ?_ ?_ <;> first | assumption | walk_at "hp")
  | (refine G.upd_oth ?_ ?_ <;> first | assumption | (apply Ne.symm; assumption) | walk_at "hp"))
/-! ### the reading, step by step -/
local macro_rules | `(tactic| walk_at "rd1") => `(tactic| first
  | refine ⟨_, rfl, ?_⟩
  | refine ⟨_, _, rfl, rfl, ?_⟩
  | refine ⟨_, _, rfl, ?_⟩
  | refine ⟨by decide, ?_⟩
  | refine ⟨⟨by decide, by decide⟩, ?_⟩
  | refine ⟨⟨by decide, by decide, by decide⟩, ?_⟩
  | refine ⟨.inr ⟨by decide, by decide⟩, ?_⟩
  | refine ⟨.inl ⟨by decide, by decide⟩, ?_⟩)
local macro_rules | `(tactic| walk_at "rd") => `(tactic| repeat walk_at "rd1")
namespace G
open PySem PySem.Spec PyProof.Rows L2
/-! ### the text by places -/
def top (i : Nat) : Stmt := PySem.Challenge.pw_seedmill_k92_images_listed.main.body.getD i (.Pass ⟨0, 0, 0, 0⟩)
abbrev s__law_pen_of : Stmt := top 39
abbrev s__law_cell_at : Stmt := top 37
abbrev s__law_next : Stmt := top 38
abbrev s__law_draw : Stmt := top 40
abbrev s__law_image : Stmt := top 42
abbrev s__law_names : Stmt := top 41
abbrev s__law_list : Stmt := top 43
abbrev s_kind_by : Stmt := top 20
abbrev s_is_leading : Stmt := top 28
abbrev s_address_by : Stmt := top 21
abbrev s_leads_within : Stmt := top 29
abbrev s_is_whole : Stmt := top 17
abbrev s_is_between : Stmt := top 18
abbrev s_is_word : Stmt := top 19
abbrev s_is_image : Stmt := top 30
abbrev s_need_image : Stmt := top 31
abbrev s_row_by : Stmt := top 23
abbrev s_listed : Stmt := top 33
abbrev s_figures_in : Stmt := top 24
abbrev s_word_by : Stmt := top 22
abbrev s_row_in : Stmt := top 25
abbrev s_line_in : Stmt := top 34
abbrev s_read_list : Stmt := top 35
abbrev s_law : Stmt := top 44
structure Top (K : PySem.W.Frag) (mg : Str → Option Value) : Prop where
  d__law_pen_of : TopDef K mg "_law_pen_of" s__law_pen_of ["_law_cell"]
  d__law_cell_at : TopDef K mg "_law_cell_at" s__law_cell_at ["_law_script", "_law_k"]
  d__law_next : TopDef K mg "_law_next" s__law_next ["_law_root"]
  d__law_draw : TopDef K mg "_law_draw" s__law_draw ["_law_pen", "_law_many"]
  d__law_image : TopDef K mg "_law_image" s__law_image ["_law_pen", "_law_most"]
  d__law_names : TopDef K mg "_law_names" s__law_names []
  d__law_list : TopDef K mg "_law_list" s__law_list ["_law_words"]
  d_kind_by : TopDef K mg "kind_by" s_kind_by ["word"]
  d_is_leading : TopDef K mg "is_leading" s_is_leading ["word"]
  d_address_by : TopDef K mg "address_by" s_address_by ["word"]
  d_leads_within : TopDef K mg "leads_within" s_leads_within ["word", "length"]
  d_is_whole : TopDef K mg "is_whole" s_is_whole ["thing"]
  d_is_between : TopDef K mg "is_between" s_is_between ["thing", "low", "high"]
  d_is_word : TopDef K mg "is_word" s_is_word ["thing"]
  d_is_image : TopDef K mg "is_image" s_is_image ["thing"]
  d_need_image : TopDef K mg "need_image" s_need_image ["thing"]
  d_row_by : TopDef K mg "row_by" s_row_by ["word"]
  d_listed : TopDef K mg "listed" s_listed ["image"]
  d_figures_in : TopDef K mg "figures_in" s_figures_in ["text", "most"]
  d_word_by : TopDef K mg "word_by" s_word_by ["kind", "address"]
  d_row_in : TopDef K mg "row_in" s_row_in ["text"]
  d_line_in : TopDef K mg "line_in" s_line_in ["number", "line"]
  d_read_list : TopDef K mg "read_list" s_read_list ["text"]
  d_law : TopDef K mg "law" s_law ["_law_script"]
  b_all : mg "all" = none
  b_bool : mg "bool" = none
  b_enumerate : mg "enumerate" = none
  b_int : mg "int" = none
  b_isinstance : mg "isinstance" = none
  b_len : mg "len" = none
  b_max : mg "max" = none
  b_range : mg "range" = none
  b_repr : mg "repr" = none
  b_str : mg "str" = none
  b_tuple : mg "tuple" = none
  c_FIGURES : ∃ t, mg "FIGURES" = some (.str "0123456789" t)
  c_KINDS : ∃ a, mg "KINDS" = some (.ref a) ∧ SqTK K a [V.str "end", V.str "load", V.str "store", V.str "add", V.str "less", V.str "take", V.str "from", V.str "into", V.str "go", V.str "zero", V.str "small", V.str "read", V.str "write", V.str "other", V.str "great", V.str "still"]
  c_LEADING : ∃ a, mg "LEADING" = some (.ref a) ∧ SqTK K a [V.int 8, V.int 9, V.int 10, V.int 13, V.int 14]
  c_MOST_ADDRESS : ∃ t, mg "MOST_ADDRESS" = some (.int 4095 t)
  c_MOST_FIGURES : ∃ t, mg "MOST_FIGURES" = some (.int 4 t)
  c_MOST_LENGTH : ∃ t, mg "MOST_LENGTH" = some (.int 1000 t)
  c_MOST_WORD : ∃ t, mg "MOST_WORD" = some (.int 65535 t)
  c_SPAN : ∃ t, mg "SPAN" = some (.int 4096 t)
  k_NoImage : ExcAt K mg "NoImage"
section
variable {P : Program} {w : World} {K : PySem.W.Frag} {mg : Str → Option Value} {base : Heap}
/-! ### _law_pen_of -/
abbrev N__law_pen_of : List Str := ["_law_cell", "_law_left"]
theorem sc__law_pen_of : FnScope N__law_pen_of ["_law_cell"] (defScope s__law_pen_of) := ⟨rfl, rfl, rfl, by decide +kernel, rfl, by decide +kernel, by decide +kernel⟩
def S__law_pen_of (K : PySem.W.Frag) (mg : Str → Option Value) : Sp := sp1 fun a H Q _ => ∃ i : Int, a = .int i ∧ ∀ (p : Addr) (x y z : Int), H p = none → Q (.ref p) (upd H p (.lst [.int x, .int y, .int z]))
theorem fn__law_pen_of (T : Top K mg) {f : Addr} {fd : FuncData} (D : DefAt K mg "_law_pen_of" s__law_pen_of ["_law_cell"] f fd) : FnG Room P w K mg base 1 f fd ["_law_cell"] (S__law_pen_of K mg) := by
  refine fn_of_body rl_room D.fn sc__law_pen_of (fun vs H Q E h => by obtain ⟨_, rfl, _⟩ := h; rfl) (fun cdv A outer s H vs Q E hr h => ?_)
  obtain ⟨a, rfl, h⟩ := h
  have nd : N__law_pen_of.Nodup := sc__law_pen_of.nd
  refine ⟨_, pss_cons (ps_set (i := 1) nd rfl (Or.inl rfl) (pe_callB (call_max2 rfl) (by rfl) T.b_max (by decide +kernel) (pa_cons (pv 0) (pa_cons (pe_op (op_sub) (pe_int) (pv 0)) (pa_nil)))))
  (pss_one (ps_ret (pe_lst (pa_cons (pv 1) (pa_cons (pe_callTy (call_int1) (by rfl) T.b_int (by decide +kernel) (pa_cons (pe_cmpR (op_ge) (pv 1) (pe_op (op_pow) (pe_int) (pe_int)) (nomark _)) (pa_nil))) (pa_cons (pe_op (op_mod) (pv 1) (pe_int)) (pa_nil))))))), ?_⟩
  obtain ⟨i, rfl, q⟩ := h
  refine ⟨_, rfl, _, rfl, _, _, rfl, rfl, _, _, rfl, ?_⟩
  refine ⟨_, rfl, _, rfl, _, _, rfl, rfl, ⟨by decide, by decide, by decide⟩, _, _, rfl, rfl, .inr ⟨_, rfl, _, rfl, _, _, rfl, rfl, (by show (0 : Int) < 1000003; decide), (by show 3 ≤ sizeLine; decide), fun p hp => q p _ _ _ hp⟩⟩
theorem cal__law_pen_of (T : Top K mg) : Cal Room P w K mg base 1 "_law_pen_of" [] (S__law_pen_of K mg) := by
  obtain ⟨f, fd, D⟩ := T.d__law_pen_of
  exact cal_mk D (fn__law_pen_of T D)
/-! ### _law_cell_at -/
abbrev N__law_cell_at : List Str := ["_law_script", "_law_k"]
theorem sc__law_cell_at : FnScope N__law_cell_at ["_law_script", "_law_k"] (defScope s__law_cell_at) := ⟨rfl, rfl, rfl, by decide +kernel, rfl, by decide +kernel, by decide +kernel⟩
def S__law_cell_at (K : PySem.W.Frag) (mg : Str → Option Value) : Sp := sp2 fun a b H Q _ => ∃ (p : Addr) (ns : List Int) (k : Int), a = .ref p ∧ b = .int k ∧ SqL K H p (ns.map V.int) ∧ 0 ≤ k ∧ ∀ z, Q (.int z) H
theorem fn__law_cell_at (T : Top K mg) {f : Addr} {fd : FuncData} (D : DefAt K mg "_law_cell_at" s__law_cell_at ["_law_script", "_law_k"] f fd) : FnG Room P w K mg base 1 f fd ["_law_script", "_law_k"] (S__law_cell_at K mg) := by
  refine fn_of_body rl_room D.fn sc__law_cell_at (fun vs H Q E h => by obtain ⟨_, _, rfl, _⟩ := h; rfl) (fun cdv A outer s H vs Q E hr h => ?_)
  obtain ⟨a, b, rfl, h⟩ := h
  have nd : N__law_cell_at.Nodup := sc__law_cell_at.nd
  refine ⟨_, pss_cons (ps_if (pt_cmpR (op_lt) (pv 1) (pe_callB (call_len_seq) (by rfl) T.b_len (PySem.boot_len) (pa_cons (pv 0) (pa_nil))) (nomark _)) (pss_one (ps_ret (pe_ix (ix_list) (pv 0) (pv 1) (fun _ _ => rfl)))) (pss_nil))
  (pss_one (ps_ret (pe_int))), ?_⟩
  obtain ⟨p, ns, k, rfl, rfl, hs, h0, q⟩ := h
  refine ⟨_, rfl, _, rfl, p, _, rfl, .inl hs, _, _, rfl, rfl, _, rfl, ?_⟩
  refine ite2 (fun e => ?_) (fun e => q _)
  have e1 : k < ((ns.map V.int).length : Int) := of_decide_eq_true e
  rw [List.length_map] at e1
  have e2 : (ns.map V.int)[k.toNat]? = some (V.int (ns[k.toNat]'(by omega))) := by
    rw [List.getElem?_map, List.getElem?_eq_getElem (by omega)]
    rfl
  exact ⟨_, rfl, _, rfl, p, _, _, _, rfl, rfl, hs, atI_int h0 e2, q _⟩
theorem cal__law_cell_at (T : Top K mg) : Cal Room P w K mg base 1 "_law_cell_at" [] (S__law_cell_at K mg) := by
  obtain ⟨f, fd, D⟩ := T.d__law_cell_at
  exact cal_mk D (fn__law_cell_at T D)
/-! ### _law_next -/
abbrev N__law_next : List Str := ["_law_root"]
theorem sc__law_next : FnScope N__law_next ["_law_root"] (defScope s__law_next) := ⟨rfl, rfl, rfl, by decide +kernel, rfl, by decide +kernel, by decide +kernel⟩
def S__law_next (K : PySem.W.Frag) (mg : Str → Option Value) : Sp := sp1 fun a H Q _ => ∃ i : Int, a = .int i ∧ ∀ z : Int, 0 ≤ z → z < 2147483629 → Q (.int z) H
theorem fn__law_next (T : Top K mg) {f : Addr} {fd : FuncData} (D : DefAt K mg "_law_next" s__law_next ["_law_root"] f fd) : FnG Room P w K mg base 1 f fd ["_law_root"] (S__law_next K mg) := by
  refine fn_of_body rl_room D.fn sc__law_next (fun vs H Q E h => by obtain ⟨_, rfl, _⟩ := h; rfl) (fun cdv A outer s H vs Q E hr h => ?_)
  obtain ⟨a, rfl, h⟩ := h
  have nd : N__law_next.Nodup := sc__law_next.nd
  refine ⟨_, pss_cons (ps_set (i := 0) nd rfl (Or.inl rfl) (pe_op (op_mod) (pe_op (op_add) (pv 0) (pe_int)) (pe_int)))
  (pss_one (ps_ret (pe_op (op_mod) (pe_op (op_add) (pe_op (op_add) (pe_op (op_mul) (pv 0) (pv 0)) (pe_op (op_mul) (pe_int) (pv 0))) (pe_int)) (pe_int)))), ?_⟩
  obtain ⟨i, rfl, q⟩ := h
  have h1 : 0 ≤ (i + 7919) % 2147483647 := Int.emod_nonneg _ (by decide)
  have h2 : (i + 7919) % 2147483647 < 2147483647 := Int.emod_lt_of_pos _ (by decide)
  refine ⟨_, rfl, _, _, rfl, rfl, _, _, rfl, rfl, (by show (0 : Int) < 2147483647; decide), ?_⟩
  refine ⟨_, rfl, _, rfl, _, _, rfl, rfl, .inl ⟨by omega, by omega⟩, _, rfl, _, _, rfl, rfl, .inl ⟨by decide, by decide⟩, _, _, rfl, rfl, _, _, rfl, rfl, _, _, rfl, rfl, (by show (0 : Int) < 2147483629; decide), ?_⟩
  exact q _ (Int.emod_nonneg _ (by decide)) (Int.emod_lt_of_pos _ (by decide))
theorem cal__law_next (T : Top K mg) : Cal Room P w K mg base 1 "_law_next" [] (S__law_next K mg) := by
  obtain ⟨f, fd, D⟩ := T.d__law_next
  exact cal_mk D (fn__law_next T D)
/-! ### _law_draw -/
abbrev N__law_draw : List Str := ["_law_pen", "_law_many", "_law_found"]
theorem sc__law_draw : FnScope N__law_draw ["_law_pen", "_law_many"] (defScope s__law_draw) := ⟨rfl, rfl, rfl, by decide +kernel, rfl, by decide +kernel, by decide +kernel⟩
def S__law_draw (K : PySem.W.Frag) (mg : Str → Option Value) : Sp := sp2 fun a b H Q _ => ∃ (p : Addr) (n : Int), a = .ref p ∧ b = .int n ∧ PenAt p H ∧ 0 < n ∧ n < 1073741824 ∧ ∀ H' r, But p H H' → PenAt p H' → 0 ≤ r → r < n → Q (.int r) H'
theorem fn__law_draw (T : Top K mg) {f : Addr} {fd : FuncData} (D : DefAt K mg "_law_draw" s__law_draw ["_law_pen", "_law_many"] f fd) : FnG Room P w K mg base 2 f fd ["_law_pen", "_law_many"] (S__law_draw K mg) := by
  refine fn_of_body rl_room D.fn sc__law_draw (fun vs H Q E h => by obtain ⟨_, _, rfl, _⟩ := h; rfl) (fun cdv A outer s H vs Q E hr h => ?_)
  obtain ⟨a, b, rfl, h⟩ := h
  have nd : N__law_draw.Nodup := sc__law_draw.nd
  refine ⟨_, pss_cons (ps_if (PW.pt (pw_and (pt_cmpR (op_eq) (pe_ix (ix_list) (pv 0) (pe_int) (fun _ _ => rfl)) (pe_int) (nomark _)) (pw_and1 (pt_cmpR (op_gt) (pe_ix (ix_list) (pv 0) (pe_int) (fun _ _ => rfl)) (pe_int) (nomark _))))) (pss_cons (ps_set (i := 2) nd rfl (Or.inl rfl) (pe_op (op_mod) (pe_ix (ix_list) (pv 0) (pe_int) (fun _ _ => rfl)) (pv 1)))
  (pss_cons (ps_asg (pe_op (op_fdiv) (pe_ix (ix_list) (pv 0) (pe_int) (fun _ _ => rfl)) (pv 1)) (pg_sub (pv 0) (pe_int) (set_list)))
  (pss_one (ps_ret (pv 2))))) (pss_nil))
  (pss_cons (ps_asg (pe_c (cal__law_next T) hr pass (pa_cons (pe_op (op_add) (pe_c (cal__law_next T) hr pass (pa_cons (pe_ix (ix_list) (pv 0) (pe_int) (fun _ _ => rfl)) (pa_nil))) (pe_int)) (pa_nil))) (pg_sub (pv 0) (pe_int) (set_list)))
  (pss_one (ps_ret (pe_op (op_mod) (pe_op (op_fdiv) (pe_ix (ix_list) (pv 0) (pe_int) (fun _ _ => rfl)) (pe_int)) (pv 1))))), ?_⟩
  obtain ⟨p, n, rfl, rfl, ⟨x, y, z, hp⟩, n0, n1, q⟩ := h
  have sq : SqL K H p [.int x, .int y, .int z] := SqL.of hp
  refine ⟨_, rfl, p, _, _, _, rfl, rfl, sq, rfl, rfl, _, rfl, ?_⟩
  refine ite2 (fun e => ⟨_, rfl, p, _, _, _, rfl, rfl, sq, rfl, _, _, rfl, rfl, _, rfl, ?_⟩) (fun e => iteF ?_)
  refine ite2 (fun e => ?_) (fun e => ?_)
  · refine ⟨_, rfl, p, _, _, _, rfl, rfl, sq, rfl, _, rfl, _, _, rfl, rfl, n0, ?_⟩
    refine ⟨_, rfl, p, _, _, _, rfl, rfl, sq, rfl, _, rfl, _, _, rfl, rfl, ⟨n0, n1⟩, _, rfl, p, _, _, _, rfl, rfl, hp, rfl, _, rfl, ?_⟩
    exact q _ _ But.upd ⟨_, _, _, upd_same⟩ (Int.emod_nonneg _ (by omega)) (Int.emod_lt_of_pos _ n0)
  all_goals
    refine ⟨_, rfl, p, _, _, _, rfl, rfl, sq, rfl, ⟨_, rfl, _, rfl, fun z1 _ _ => ⟨_, _, rfl, rfl, ⟨_, rfl, _, rfl, fun z2 _ _ => ⟨_, rfl, p, _, _, _, rfl, rfl, hp, rfl, ?_⟩⟩⟩⟩⟩
    refine ⟨_, rfl, p, _, _, _, rfl, rfl, SqL.of upd_same, rfl, _, _, rfl, rfl, ⟨by decide, by decide⟩, _, rfl, _, _, rfl, rfl, n0, ?_⟩
    exact q _ _ But.upd ⟨_, _, _, upd_same⟩ (Int.emod_nonneg _ (by omega)) (Int.emod_lt_of_pos _ n0)
theorem cal__law_draw (T : Top K mg) : Cal Room P w K mg base 2 "_law_draw" [] (S__law_draw K mg) := by
  obtain ⟨f, fd, D⟩ := T.d__law_draw
  exact cal_mk D (fn__law_draw T D)
/-! ### _law_image -/
abbrev N__law_image : List Str := ["_law_pen", "_law_most", "_law_many", "_law_found", "_law_at", "_law_sort", "_law_far"]
theorem sc__law_image : FnScope N__law_image ["_law_pen", "_law_most"] (defScope s__law_image) := ⟨rfl, rfl, rfl, by decide +kernel, rfl, by decide +kernel, by decide +kernel⟩
def S__law_image (K : PySem.W.Frag) (mg : Str → Option Value) : Sp := sp2 fun a b H Q _ => ∃ (p : Addr) (n : Int), a = .ref p ∧ b = .int n ∧ PenAt p H ∧ 1 ≤ n ∧ n ≤ 1000 ∧ ∀ H' l (ws : List Int), But p H H' → PenAt p H' → H l = none → H' l = some (.tup (ws.map V.int)) → Words ws → imgB (ws.map V.int) = true → Q (.ref l) H'
theorem fn__law_image (T : Top K mg) {f : Addr} {fd : FuncData} (D : DefAt K mg "_law_image" s__law_image ["_law_pen", "_law_most"] f fd) : FnG Room P w K mg base 3 f fd ["_law_pen", "_law_most"] (S__law_image K mg) := by
  refine fn_of_body rl_room D.fn sc__law_image (fun vs H Q E h => by obtain ⟨_, _, rfl, _⟩ := h; rfl) (fun cdv A outer s H vs Q E hr h => ?_)
  obtain ⟨a, b, rfl, h⟩ := h
  have nd : N__law_image.Nodup := sc__law_image.nd
  refine ⟨_, pss_cons (ps_set (i := 2) nd rfl (Or.inl rfl) (pe_op (op_add) (pe_int) (pe_c (cal__law_draw T) hr pass (pa_cons (pv 0) (pa_cons (pv 1) (pa_nil))))))
  (pss_cons (ps_set (i := 3) nd rfl (Or.inl rfl) (pe_lst (pa_nil)))
  (pss_cons (ps_for (passes_of rfl) rfl (pi_range1 rfl T.b_range (pa_cons (pv 2) (pa_nil))) (pg_name (i := 4) nd rfl (Or.inl rfl)) (pss_cons (ps_par (i := 5) (j := 6) (by rfl) nd rfl rfl (by decide) rfl rfl (pa_cons (pe_c (cal__law_draw T) hr pass (pa_cons (pv 0) (pa_cons (pe_int) (pa_nil)))) (pa_cons (pe_ix (ix_list) (pe_lst (pa_cons (pe_c (cal__law_draw T) hr pass (pa_cons (pv 0) (pa_cons (pe_int) (pa_nil)))) (pa_cons (pe_c (cal__law_draw T) hr pass (pa_cons (pv 0) (pa_cons (pe_int) (pa_nil)))) (pa_cons (pe_int) (pa_cons (pe_int) (pa_nil)))))) (pe_c (cal__law_draw T) hr pass (pa_cons (pv 0) (pa_cons (pe_int) (pa_nil)))) (fun _ _ => rfl)) (pa_nil))) (by rfl))
  (pss_one (ps_expr (pe_bm PySem.F.plainAttrs_list PySem.F.slot_list_append PySem.F.type_list_append (mt_append) (pv 3) (pa_cons (pe_op (op_add) (pe_op (op_mul) (pv 5) (pe_int)) (pe_ifExp (pt_cmpR (op_in_seq) (pv 5) (pe_tup (pa_cons (pe_int) (pa_cons (pe_int) (pa_cons (pe_int) (pa_cons (pe_int) (pa_cons (pe_int) (pa_nil))))))) (by rfl)) (pe_c (cal__law_draw T) hr pass (pa_cons (pv 0) (pa_cons (pv 2) (pa_nil)))) (pv 6))) (pa_nil)))))))
  (pss_one (ps_ret (pe_callTy (call_tuple_of) (by rfl) T.b_tuple (by decide +kernel) (pa_cons (pv 3) (pa_nil))))))), ?_⟩
  obtain ⟨p, n, rfl, rfl, hp, n1, n2, q⟩ := h
  refine ⟨_, rfl, _, rfl, _, _, rfl, p, n, rfl, rfl, hp, by omega, by omega, fun H1 r b1 hp1 r0 r1 => ?_⟩
  obtain ⟨m, hm⟩ : ∃ m : Nat, 1 + r = m := ⟨(1 + r).toNat, by omega⟩
  refine ⟨_, _, rfl, rfl, by show 0 ≤ sizeLine; decide, fun l0 f0 => ?_⟩
  dsimp only
  rw [hm]
  have fl0 : H l0 = none := by
    cases e : H l0 with
    | none => rfl
    | some o =>
      have hne : l0 ≠ p := hp1.ne f0
      rw [b1 _ _ hne e] at f0
      cases f0
  have np : l0 ≠ p := hp.ne fl0
  have m1 : 1 ≤ m ∧ m ≤ 1000 := by omega
  refine ⟨_, rfl, m, rfl, by omega, by omega, for_range (n := m) (fun i σ H' => (∃ a s f, σ = [some (.ref p), some (.int n), some (.int (m : Int)), some (.ref l0), a, s, f]) ∧ But p H H' ∧ PenAt p H' ∧ ∃ ws : List Int, H' l0 = some (.lst (ws.map V.int)) ∧ ws.length = i ∧ Words ws ∧ ∀ w ∈ ws, leadB w = true → w % 4096 < m)
    ⟨⟨_, _, _, rfl⟩, But.trans b1 (But.of (same_upd f0)), hp1.up f0, [], upd_same, rfl, fun _ h => absurd h List.not_mem_nil, fun _ h => absurd h List.not_mem_nil⟩ ?_ ?_⟩
  · rintro i σ H2 hi ⟨⟨a, s, f, rfl⟩, b2, hp2, ws, hl2, hwl, hw, hle⟩
    refine ⟨_, rfl, _, _, rfl, p, 16, rfl, rfl, hp2, by decide, by decide, fun H3 so b3 hp3 s0 s1 => ?_⟩
    refine ⟨_, rfl, _, _, rfl, p, 4096, rfl, rfl, hp3, by decide, by decide, fun H4 fa b4 hp4 fa0 fa1 => ?_⟩
    refine ⟨_, rfl, _, _, rfl, p, 12, rfl, rfl, hp4, by decide, by decide, fun H5 fb b5 hp5 fb0 fb1 => ?_⟩
    refine ⟨by show 4 ≤ sizeLine; decide, fun lf nf => ?_⟩
    refine ⟨_, rfl, _, _, rfl, p, 4, rfl, rfl, hp5.up nf, by decide, by decide, fun H6 k b6 hp6 k0 k1 => ?_⟩
    have hlf : H6 lf = some (.lst [V.int fa, V.int fb, V.int 0, V.int 4095]) := b6 _ _ (hp5.ne nf) upd_same
    obtain ⟨far, hat, far0, far1⟩ : ∃ far : Int, [V.int fa, V.int fb, V.int 0, V.int 4095][k.toNat]? = some (.int far) ∧ 0 ≤ far ∧ far ≤ 4095 := by
      have : k = 0 ∨ k = 1 ∨ k = 2 ∨ k = 3 := by omega
      rcases this with rfl | rfl | rfl | rfl
      · exact ⟨fa, rfl, by omega, by omega⟩
      · exact ⟨fb, rfl, by omega, by omega⟩
      · exact ⟨0, rfl, by omega, by omega⟩
      · exact ⟨4095, rfl, by omega, by omega⟩
    refine ⟨lf, _, _, _, rfl, rfl, SqL.of hlf, atI_int k0 hat, _, _, rfl, ?_⟩
    have b26 : But p H2 H6 := But.trans b3 (But.trans b4 (But.trans b5 (But.trans (But.of (same_upd nf)) b6)))
    have hl6 : H6 l0 = some (.lst (ws.map V.int)) := b26 _ _ np hl2
    refine ⟨_, rfl, .inl ⟨rfl, _, SqL.of hl6⟩, _, rfl, _, _, rfl, rfl, .inr ⟨by decide, by decide⟩, _, rfl, by show 5 ≤ sizeLine; decide, fun lt nt => ?_⟩
    refine ⟨lt, _, rfl, .inr (SqT.of upd_same), rfl, rfl, _, rfl, ?_⟩
    have hp7 := hp6.up (o := .tup [V.int 8, V.int 9, V.int 10, V.int 13, V.int 14]) nt
    have hb7 : But p H2 (upd H6 lt (.tup [V.int 8, V.int 9, V.int 10, V.int 13, V.int 14])) := But.trans b26 (But.of (same_upd nt))
    generalize upd H6 lt (.tup [V.int 8, V.int 9, V.int 10, V.int 13, V.int 14]) = H7 at hp7 hb7 ⊢
    have hld : ∀ x : Int, 0 ≤ x → x ≤ 4095 → leadB (so * 4096 + x) = inV (.int so) [V.int 8, V.int 9, V.int 10, V.int 13, V.int 14] := fun x x0 x1 => by
      rw [← inV_lead, show (so * 4096 + x) / 4096 = so by omega]
    have fin : ∀ (H9 : Hp) (x : Int), But p H2 H9 → PenAt p H9 → 0 ≤ x → x ≤ 4095 → (leadB (so * 4096 + x) = true → x < m) →
        (∃ ws' : List Int, upd H9 l0 (.lst (ws.map V.int ++ [V.int (so * 4096 + x)])) l0 = some (.lst (ws'.map V.int)) ∧ ws'.length = i + 1 ∧ Words ws' ∧ ∀ w ∈ ws', leadB w = true → w % 4096 < m) ∧
          But p H (upd H9 l0 (.lst (ws.map V.int ++ [V.int (so * 4096 + x)]))) ∧ PenAt p (upd H9 l0 (.lst (ws.map V.int ++ [V.int (so * 4096 + x)]))) := by
      intro H9 x b9 p9 x0 x1 hx
      refine ⟨⟨ws ++ [so * 4096 + x], ?_, ?_, ?_, ?_⟩, ?_, p9.oth np⟩
      · rw [upd_same, List.map_append]
        rfl
      · rw [List.length_append, hwl]
        rfl
      · intro w h
        rcases List.mem_append.mp h with h | h
        · exact hw w h
        · rw [List.mem_singleton.mp h]
          omega
      · intro w h e
        rcases List.mem_append.mp h with h | h
        · exact hle w h e
        · rw [List.mem_singleton.mp h] at e ⊢
          have := hx e
          omega
      · intro b o n h
        have hne : b ≠ l0 := fun e => by rw [e, fl0] at h; cases h
        rw [upd_ne hne]
        exact b9 _ _ n (b2 _ _ n h)
    have hlen : (ws.map V.int).length < sizeLine := by
      rw [List.length_map]
      exact Nat.lt_of_le_of_lt (show ws.length ≤ 1000 by omega) (by decide)
    cases e : inV (.int so) [V.int 8, V.int 9, V.int 10, V.int 13, V.int 14] with
    | true =>
      refine iteT ⟨_, rfl, _, rfl, _, _, rfl, p, m, rfl, rfl, hp7, by omega, by omega, fun H8 ad b8 hp8 a0 a1 => ⟨_, _, rfl, rfl, l0, _, _, rfl, rfl, b8 _ _ np (hb7 _ _ np hl2), hlen, ?_⟩⟩
      obtain ⟨f1, f2, f3⟩ := fin H8 ad (But.trans hb7 b8) hp8 a0 (by omega) fun _ => a1
      exact ⟨⟨_, _, _, rfl⟩, f2, f3, f1⟩
    | false =>
      refine iteF ⟨_, rfl, _, _, rfl, rfl, l0, _, _, rfl, rfl, hb7 _ _ np hl2, hlen, ?_⟩
      obtain ⟨f1, f2, f3⟩ := fin H7 far hb7 hp7 far0 far1 fun z => by rw [hld far far0 far1, e] at z; cases z
      exact ⟨⟨_, _, _, rfl⟩, f2, f3, f1⟩
  · rintro σ H2 ⟨⟨a, s, f, rfl⟩, b2, hp2, ws, hl2, hwl, hw, hle⟩
    refine ⟨_, rfl, l0, _, rfl, .inl ⟨SqL.of hl2, fun l hl => ?_⟩⟩
    have fl : H l = none := by
      cases e : H l with
      | none => rfl
      | some o =>
        have hne : l ≠ p := hp2.ne hl
        rw [b2 _ _ hne e] at hl
        cases hl
    exact q _ l ws (But.trans b2 (But.of (same_upd hl))) (hp2.up hl) fl upd_same hw (imgB_of hw (by omega) (by omega) (by rw [hwl]; exact hle))
theorem cal__law_image (T : Top K mg) : Cal Room P w K mg base 3 "_law_image" [] (S__law_image K mg) := by
  obtain ⟨f, fd, D⟩ := T.d__law_image
  exact cal_mk D (fn__law_image T D)
/-! ### _law_names -/
abbrev N__law_names : List Str := ["_law_some"]
theorem sc__law_names : FnScope N__law_names [] (defScope s__law_names) := ⟨rfl, rfl, rfl, by decide +kernel, rfl, by decide +kernel, by decide +kernel⟩
def S__law_names (K : PySem.W.Frag) (mg : Str → Option Value) : Sp := sp0 fun H Q _ => ∀ H' p, Same H H' → H p = none → H' p = some (.lst (KN.map V.str)) → Q (.ref p) H'
theorem fn__law_names (T : Top K mg) {f : Addr} {fd : FuncData} (D : DefAt K mg "_law_names" s__law_names [] f fd) : FnG Room P w K mg base 1 f fd [] (S__law_names K mg) := by
  refine fn_of_body rl_room D.fn sc__law_names (fun vs H Q E h => by obtain ⟨rfl, _⟩ := h; rfl) (fun cdv A outer s H vs Q E hr h => ?_)
  obtain ⟨rfl, h⟩ := h
  have nd : N__law_names.Nodup := sc__law_names.nd
  refine ⟨_, pss_cons (ps_set (i := 0) nd rfl (Or.inl rfl) (pe_lst (pa_cons (pe_str) (pa_cons (pe_str) (pa_cons (pe_str) (pa_cons (pe_str) (pa_cons (pe_str) (pa_cons (pe_str) (pa_cons (pe_str) (pa_cons (pe_str) (pa_cons (pe_str) (pa_cons (pe_str) (pa_cons (pe_str) (pa_cons (pe_str) (pa_cons (pe_str) (pa_nil))))))))))))))))
  (pss_one (ps_ret (pe_op (op_cat) (pv 0) (pe_lst (pa_cons (pe_str) (pa_cons (pe_str) (pa_cons (pe_str) (pa_nil)))))))), ?_⟩
  refine ⟨by show 13 ≤ sizeLine; decide, fun l1 n1 => ⟨_, rfl, by show 3 ≤ sizeLine; decide, fun l2 n2 => ?_⟩⟩
  refine ⟨l1, l2, _, _, rfl, rfl, by walk_at "hp", upd_same, by show 16 ≤ sizeLine; decide, fun l n3 => ?_⟩
  have f1 : H l = none := by
    exact Same.free (fun b o e => upd_old (upd_old e n1) n2) n3
  exact h _ l (fun b o e => upd_old (upd_old (upd_old e n1) n2) n3) f1 upd_same
theorem cal__law_names (T : Top K mg) : Cal Room P w K mg base 1 "_law_names" [] (S__law_names K mg) := by
  obtain ⟨f, fd, D⟩ := T.d__law_names
  exact cal_mk D (fn__law_names T D)
/-! ### _law_list -/
abbrev N__law_list : List Str := ["_law_words", "_law_rows", "_law_at", "_law_word"]
theorem sc__law_list : FnScope N__law_list ["_law_words"] (defScope s__law_list) := ⟨rfl, rfl, rfl, by decide +kernel, rfl, by decide +kernel, by decide +kernel⟩
def S__law_list (K : PySem.W.Frag) (mg : Str → Option Value) : Sp := sp1 fun a H Q _ => ∃ (p : Addr) (ws : List Int), a = .ref p ∧ SqT K H p (ws.map V.int) ∧ Words ws ∧ ws.length ≤ 1000 ∧ ws ≠ [] ∧ ∀ H', Same H H' → Q (.str (listT ws)) H'
theorem fn__law_list (T : Top K mg) {f : Addr} {fd : FuncData} (D : DefAt K mg "_law_list" s__law_list ["_law_words"] f fd) : FnG Room P w K mg base 2 f fd ["_law_words"] (S__law_list K mg) := by
  refine fn_of_body rl_room D.fn sc__law_list (fun vs H Q E h => by obtain ⟨_, rfl, _⟩ := h; rfl) (fun cdv A outer s H vs Q E hr h => ?_)
  obtain ⟨a, rfl, h⟩ := h
  have nd : N__law_list.Nodup := sc__law_list.nd
  refine ⟨_, pss_cons (ps_setLc (i := 1) (own := [("_law_at", 2), ("_law_word", 3)]) (g := gTup K 2 (gCons (gName 2) (gCons (gName 3) (gNil)))) (tt := tYes) rfl nd rfl rfl (sw_true rfl rfl rfl (by decide +kernel)) (pi_enumT (by rfl) T.b_enumerate (pa_cons (pv 0) (pa_nil))) (blkOk_by (own := [("_law_at", 2), ("_law_word", 3)]) (N := N__law_list) (sc := defScope s__law_list) (by decide +kernel)) (fun _ _ _ _ _ => pg_tup rfl (pgs_cons (pg_name (i := 2) nd rfl (Or.inl rfl)) (pgs_cons (pg_name (i := 3) nd rfl (Or.inl rfl)) (pgs_nil)))) (fun _ _ _ _ _ => pts_nil) (fun _ _ _ _ _ => pe_op (op_add_str) (pe_op (op_add_str) (pe_op (op_add_str) (pe_op (op_add_str) (pe_callTy (call_str_int) (by rfl) T.b_str (by decide +kernel) (pa_cons (pv 2) (pa_nil))) (pe_str)) (pe_ix (ix_listK (K := K) rfl) (pe_c0 (cal__law_names T) hr passL) (pe_op (op_fdiv) (pv 3) (pe_int)) (fun _ _ => rfl))) (pe_str)) (pe_callTy (call_str_int) (by rfl) T.b_str (by decide +kernel) (pa_cons (pe_op (op_mod) (pv 3) (pe_int)) (pa_nil)))))
  (pss_one (ps_ret (pe_op (op_add_str) (pe_bm PySem.F.plainAttrs_str PySem.F.slot_str_join PySem.F.type_str_join (mt_join) (pe_str) (pa_cons (pv 1) (pa_nil))) (pe_str)))), ?_⟩
  obtain ⟨p, ws, rfl, hs, hw, hl, hne, q⟩ := h
  have hsz : 20000 ≤ sizeLine := by decide
  refine ⟨_, rfl, p, _, rfl, hs, fun D hD => ?_⟩
  refine lc_mapS walk_enumT ((rowsL ws).map V.str) (by simp [rowsL_n]) (by rw [List.length_map]; omega) hD (fun H3 s3 => sqT_same s3 hs) ?_ ?_
  · rintro i v H2 H3 R hi s2 ⟨T2, v1, v2, rfl, nt, rfl, e1, e2⟩ hR
    cases e1
    replace e2 : (ws.map V.int)[i]? = some v2 := e2
    rw [List.length_map] at hi
    rw [List.getElem?_map, List.getElem?_eq_getElem hi] at e2
    cases e2
    obtain ⟨w0, w1⟩ := hw _ (List.getElem_mem hi)
    refine ⟨T2, _, rfl, SqT.of upd_same, rfl, _, _, rfl, _, _, rfl, rfl, rfl, ?_⟩
    have hk : 0 ≤ ws[i] / 4096 ∧ ws[i] / 4096 < 16 := by omega
    have hn : (ws[i] / 4096).toNat < KN.length := by show (ws[i] / 4096).toNat < 16; omega
    have e1 : (KN.map V.str)[(ws[i] / 4096).toNat]? = some (V.str (KN.getD (ws[i] / 4096).toNat Str.empty)) := by
      rw [List.getElem?_map, List.getD_eq_getElem?_getD, List.getElem?_eq_getElem hn]
      rfl
    have e16 := line_len (i := i) (w := ws[i]) (by omega) ⟨w0, w1⟩
    have eq : (((Str.ofString (toString (i : Int)) ++ (" " : Str)) ++ KN.getD (ws[i] / 4096).toNat Str.empty) ++ (" " : Str)) ++ Str.ofString (toString (ws[i] % 4096)) = lineOf i ws[i] := by
      unfold lineOf aheadOf rowT
      refine TL.ext_tl ?_
      simp only [TL.tl_append, List.append_assoc, empty_app]
    have e16' := e16
    rw [← eq] at e16'
    simp only [Str.length_append] at e16'
    have l1 : (" " : Str).length = 1 := rfl
    rw [l1] at e16'
    refine ⟨_, rfl, _, rfl, log_fine (by omega), _, _, rfl, rfl, ?_, rfl, fun H5 a s5 na ha => ⟨_, rfl, _, _, rfl, rfl, ⟨by decide, by decide⟩, a, _, _, _, rfl, rfl, SqL.of ha, atI_int hk.1 e1, _, _, rfl, rfl, ?_, _, _, rfl, rfl, ?_, _, rfl, _, _, rfl, rfl, (show (0 : Int) < 4096 by decide), _, rfl, log_fine (by omega), _, _, rfl, rfl, ?_, ?_⟩⟩
    iterate 4
      simp only [Str.length_append, l1]
      omega
    refine hR _ _ ?_ (Same.trans (same_upd nt) s5)
    rw [List.getElem?_map, rowsL_at, List.getElem?_eq_getElem hi, eq]
    rfl
  · rintro H2 s2 hD2
    have h2 := sum_lens (rowsL_len hl hw)
    have h3 := join_len "\n" (rowsL ws)
    have l1 : ("\n" : Str).length = 1 := rfl
    rw [rowsL_n] at h2 h3
    rw [l1] at h3
    refine ⟨rfl, _, rfl, "\n", D, rowsL ws, rfl, rfl, .inl (SqL.of hD2), ?_, _, _, rfl, rfl, ?_, ?_⟩
    · rw [rowsL_n, l1]
      omega
    · rw [l1]
      omega
    · have := q H2 s2
      rw [listT_eq hne] at this
      exact this
theorem cal__law_list (T : Top K mg) : Cal Room P w K mg base 2 "_law_list" [] (S__law_list K mg) := by
  obtain ⟨f, fd, D⟩ := T.d__law_list
  exact cal_mk D (fn__law_list T D)
/-! ### kind_by -/
abbrev N_kind_by : List Str := ["word"]
theorem sc_kind_by : FnScope N_kind_by ["word"] (defScope s_kind_by) := ⟨rfl, rfl, rfl, by decide +kernel, rfl, by decide +kernel, by decide +kernel⟩
def S_kind_by (K : PySem.W.Frag) (mg : Str → Option Value) : Sp := sp1 fun a H Q _ => ∃ i, a = .int i ∧ Q (.int (i / 4096)) H
theorem fn_kind_by (T : Top K mg) {f : Addr} {fd : FuncData} (D : DefAt K mg "kind_by" s_kind_by ["word"] f fd) : FnG Room P w K mg base 1 f fd ["word"] (S_kind_by K mg) := by
  refine fn_of_body rl_room D.fn sc_kind_by (fun vs H Q E h => by obtain ⟨_, rfl, _⟩ := h; rfl) (fun cdv A outer s H vs Q E hr h => ?_)
  obtain ⟨a, rfl, h⟩ := h
  have nd : N_kind_by.Nodup := sc_kind_by.nd
  refine ⟨_, pss_one (ps_ret (pe_op (op_fdiv) (pv 0) (pe_gi T.c_SPAN))), ?_⟩
  obtain ⟨i, rfl, q⟩ := h
  exact ⟨_, rfl, _, _, rfl, rfl, ⟨by decide, by decide⟩, q⟩
theorem cal_kind_by (T : Top K mg) : Cal Room P w K mg base 1 "kind_by" [] (S_kind_by K mg) := by
  obtain ⟨f, fd, D⟩ := T.d_kind_by
  exact cal_mk D (fn_kind_by T D)
/-! ### is_leading -/
abbrev N_is_leading : List Str := ["word"]
theorem sc_is_leading : FnScope N_is_leading ["word"] (defScope s_is_leading) := ⟨rfl, rfl, rfl, by decide +kernel, rfl, by decide +kernel, by decide +kernel⟩
def S_is_leading (K : PySem.W.Frag) (mg : Str → Option Value) : Sp := sp1 fun a H Q _ => ∃ i, a = .int i ∧ Q (.bl (leadB i)) H
theorem fn_is_leading (T : Top K mg) {f : Addr} {fd : FuncData} (D : DefAt K mg "is_leading" s_is_leading ["word"] f fd) : FnG Room P w K mg base 2 f fd ["word"] (S_is_leading K mg) := by
  refine fn_of_body rl_room D.fn sc_is_leading (fun vs H Q E h => by obtain ⟨_, rfl, _⟩ := h; rfl) (fun cdv A outer s H vs Q E hr h => ?_)
  obtain ⟨a, rfl, h⟩ := h
  have nd : N_is_leading.Nodup := sc_is_leading.nd
  obtain ⟨a_LEADING, m_LEADING, s_LEADING⟩ := T.c_LEADING
  refine ⟨_, pss_one (ps_ret (pe_cmpR (op_in_seq) (pe_c (cal_kind_by T) hr pass (pa_cons (pv 0) (pa_nil))) (pe_glob (v := .ref a_LEADING) rfl m_LEADING rfl) (by rfl))), ?_⟩
  obtain ⟨i, rfl, q⟩ := h
  refine ⟨_, rfl, _, rfl, i, rfl, a_LEADING, _, rfl, .inr (s_LEADING.sq H), rfl, rfl, ?_⟩
  rw [← inV_lead] at q
  exact q
theorem cal_is_leading (T : Top K mg) : Cal Room P w K mg base 2 "is_leading" [] (S_is_leading K mg) := by
  obtain ⟨f, fd, D⟩ := T.d_is_leading
  exact cal_mk D (fn_is_leading T D)
/-! ### address_by -/
abbrev N_address_by : List Str := ["word"]
theorem sc_address_by : FnScope N_address_by ["word"] (defScope s_address_by) := ⟨rfl, rfl, rfl, by decide +kernel, rfl, by decide +kernel, by decide +kernel⟩
def S_address_by (K : PySem.W.Frag) (mg : Str → Option Value) : Sp := sp1 fun a H Q _ => ∃ i, a = .int i ∧ Q (.int (i % 4096)) H
theorem fn_address_by (T : Top K mg) {f : Addr} {fd : FuncData} (D : DefAt K mg "address_by" s_address_by ["word"] f fd) : FnG Room P w K mg base 1 f fd ["word"] (S_address_by K mg) := by
  refine fn_of_body rl_room D.fn sc_address_by (fun vs H Q E h => by obtain ⟨_, rfl, _⟩ := h; rfl) (fun cdv A outer s H vs Q E hr h => ?_)
  obtain ⟨a, rfl, h⟩ := h
  have nd : N_address_by.Nodup := sc_address_by.nd
  refine ⟨_, pss_one (ps_ret (pe_op (op_mod) (pv 0) (pe_gi T.c_SPAN))), ?_⟩
  obtain ⟨i, rfl, q⟩ := h
  exact ⟨_, rfl, _, _, rfl, rfl, (by show (0 : Int) < 4096; decide), q⟩
theorem cal_address_by (T : Top K mg) : Cal Room P w K mg base 1 "address_by" [] (S_address_by K mg) := by
  obtain ⟨f, fd, D⟩ := T.d_address_by
  exact cal_mk D (fn_address_by T D)
/-! ### leads_within -/
abbrev N_leads_within : List Str := ["word", "length"]
theorem sc_leads_within : FnScope N_leads_within ["word", "length"] (defScope s_leads_within) := ⟨rfl, rfl, rfl, by decide +kernel, rfl, by decide +kernel, by decide +kernel⟩
def S_leads_within (K : PySem.W.Frag) (mg : Str → Option Value) : Sp := sp2 fun a b H Q _ => ∃ i n, a = .int i ∧ b = .int n ∧ Q (.bl (leadsV n (.int i))) H
theorem fn_leads_within (T : Top K mg) {f : Addr} {fd : FuncData} (D : DefAt K mg "leads_within" s_leads_within ["word", "length"] f fd) : FnG Room P w K mg base 3 f fd ["word", "length"] (S_leads_within K mg) := by
  refine fn_of_body rl_room D.fn sc_leads_within (fun vs H Q E h => by obtain ⟨_, _, rfl, _⟩ := h; rfl) (fun cdv A outer s H vs Q E hr h => ?_)
  obtain ⟨a, b, rfl, h⟩ := h
  have nd : N_leads_within.Nodup := sc_leads_within.nd
  refine ⟨_, pss_one (ps_ret (pe_or (pe_not (pe_c (cal_is_leading T) hr pass (pa_cons (pv 0) (pa_nil)))) (pe_one (pe_cmpR (op_lt) (pe_c (cal_address_by T) (hr.mono (by decide)) pass (pa_cons (pv 0) (pa_nil))) (pv 1) (nomark _))))), ?_⟩
  obtain ⟨i, n, rfl, rfl, q⟩ := h
  refine ⟨_, rfl, _, rfl, i, rfl, _, rfl, _, rfl, ?_⟩
  cases e : leadB i with
  | false =>
    refine iteT ?_
    simp only [leadsV, e, Bool.not_false, Bool.true_or] at q
    exact q
  | true =>
    refine iteF ⟨_, rfl, _, rfl, i, rfl, _, rfl, _, _, rfl, rfl, ?_⟩
    simp only [leadsV, e, Bool.not_true, Bool.false_or] at q
    exact q
theorem cal_leads_within (T : Top K mg) : Cal Room P w K mg base 3 "leads_within" [] (S_leads_within K mg) := by
  obtain ⟨f, fd, D⟩ := T.d_leads_within
  exact cal_mk D (fn_leads_within T D)
/-! ### is_whole -/
abbrev N_is_whole : List Str := ["thing"]
theorem sc_is_whole : FnScope N_is_whole ["thing"] (defScope s_is_whole) := ⟨rfl, rfl, rfl, by decide +kernel, rfl, by decide +kernel, by decide +kernel⟩
def S_is_whole (K : PySem.W.Frag) (mg : Str → Option Value) : Sp := sp1 fun a H Q _ => ∃ n, Thing K H a n ∧ Q (.bl (isIntV a)) H
theorem fn_is_whole (T : Top K mg) {f : Addr} {fd : FuncData} (D : DefAt K mg "is_whole" s_is_whole ["thing"] f fd) : FnG Room P w K mg base 1 f fd ["thing"] (S_is_whole K mg) := by
  refine fn_of_body rl_room D.fn sc_is_whole (fun vs H Q E h => by obtain ⟨_, rfl, _⟩ := h; rfl) (fun cdv A outer s H vs Q E hr h => ?_)
  obtain ⟨a, rfl, h⟩ := h
  have nd : N_is_whole.Nodup := sc_is_whole.nd
  refine ⟨_, pss_one (ps_ret (pe_and (pe_callB call_isB (by rfl) T.b_isinstance (by decide +kernel) (pa_cons (pv 0) (pa_cons (pe_bltn (v := .ty "int") rfl T.b_int boot_int rfl) (pa_nil)))) (pe_one (pe_not (pe_callB call_isB (by rfl) T.b_isinstance (by decide +kernel) (pa_cons (pv 0) (pa_cons (pe_bltn (v := .ty "bool") rfl T.b_bool boot_bool rfl) (pa_nil)))))))), ?_⟩
  obtain ⟨n, th, q⟩ := h
  refine ⟨_, rfl, _, _, _, rfl, th, (by decide), _, rfl, ?_⟩
  have e := isInt_of th
  cases c : subB n "int" with
  | false =>
    rw [c] at e
    refine iteF ?_
    show Q (.bl false) H
    rw [show (false : Bool) = isIntV a from e]
    exact q
  | true =>
    rw [c] at e
    refine iteT ⟨_, rfl, _, _, _, rfl, th, (by decide), _, rfl, ?_⟩
    show Q (.bl (!subB n "bool")) H
    rw [show (!subB n "bool") = isIntV a from e]
    exact q
theorem cal_is_whole (T : Top K mg) : Cal Room P w K mg base 1 "is_whole" [] (S_is_whole K mg) := by
  obtain ⟨f, fd, D⟩ := T.d_is_whole
  exact cal_mk D (fn_is_whole T D)
/-! ### is_between -/
abbrev N_is_between : List Str := ["thing", "low", "high"]
theorem sc_is_between : FnScope N_is_between ["thing", "low", "high"] (defScope s_is_between) := ⟨rfl, rfl, rfl, by decide +kernel, rfl, by decide +kernel, by decide +kernel⟩
def S_is_between (K : PySem.W.Frag) (mg : Str → Option Value) : Sp := sp3 fun a b c H Q _ => ∃ n lo hi, Thing K H a n ∧ b = .int lo ∧ c = .int hi ∧ Q (.bl (btwV a lo hi)) H
theorem fn_is_between (T : Top K mg) {f : Addr} {fd : FuncData} (D : DefAt K mg "is_between" s_is_between ["thing", "low", "high"] f fd) : FnG Room P w K mg base 2 f fd ["thing", "low", "high"] (S_is_between K mg) := by
  refine fn_of_body rl_room D.fn sc_is_between (fun vs H Q E h => by obtain ⟨_, _, _, rfl, _⟩ := h; rfl) (fun cdv A outer s H vs Q E hr h => ?_)
  obtain ⟨a, b, c, rfl, h⟩ := h
  have nd : N_is_between.Nodup := sc_is_between.nd
  refine ⟨_, pss_one (ps_ret (pe_and (pe_c (cal_is_whole T) hr pass (pa_cons (pv 0) (pa_nil))) (pe_one (pe_chain (op_le) (op_le) (pv 1) (pv 0) (pv 2))))), ?_⟩
  obtain ⟨n, lo, hi, th, rfl, rfl, q⟩ := h
  refine ⟨_, rfl, _, rfl, n, th, _, rfl, ?_⟩
  cases a with
  | int i =>
    refine iteT ⟨_, rfl, _, rfl, _, _, rfl, rfl, _, rfl, ?_⟩
    cases e : decide (lo ≤ i) with
    | false =>
      refine iteF ?_
      rw [show btwV (.int i) lo hi = false by simp only [btwV, e, Bool.false_and]] at q
      exact q
    | true =>
      refine iteT ⟨_, rfl, _, _, rfl, rfl, ?_⟩
      rw [show btwV (.int i) lo hi = decide (i ≤ hi) by simp only [btwV, e, Bool.true_and]] at q
      exact q
  | _ => exact iteF q
theorem cal_is_between (T : Top K mg) : Cal Room P w K mg base 2 "is_between" [] (S_is_between K mg) := by
  obtain ⟨f, fd, D⟩ := T.d_is_between
  exact cal_mk D (fn_is_between T D)
/-! ### is_word -/
abbrev N_is_word : List Str := ["thing"]
theorem sc_is_word : FnScope N_is_word ["thing"] (defScope s_is_word) := ⟨rfl, rfl, rfl, by decide +kernel, rfl, by decide +kernel, by decide +kernel⟩
def S_is_word (K : PySem.W.Frag) (mg : Str → Option Value) : Sp := sp1 fun a H Q _ => ∃ n, Thing K H a n ∧ Q (.bl (btwV a 0 65535)) H
theorem fn_is_word (T : Top K mg) {f : Addr} {fd : FuncData} (D : DefAt K mg "is_word" s_is_word ["thing"] f fd) : FnG Room P w K mg base 3 f fd ["thing"] (S_is_word K mg) := by
  refine fn_of_body rl_room D.fn sc_is_word (fun vs H Q E h => by obtain ⟨_, rfl, _⟩ := h; rfl) (fun cdv A outer s H vs Q E hr h => ?_)
  obtain ⟨a, rfl, h⟩ := h
  have nd : N_is_word.Nodup := sc_is_word.nd
  refine ⟨_, pss_one (ps_ret (pe_c (cal_is_between T) hr pass (pa_cons (pv 0) (pa_cons (pe_int) (pa_cons (pe_gi T.c_MOST_WORD) (pa_nil)))))), ?_⟩
  obtain ⟨n, th, q⟩ := h
  exact ⟨_, rfl, ⟨_, _, _, rfl, n, _, _, th, rfl, rfl, q⟩⟩
theorem cal_is_word (T : Top K mg) : Cal Room P w K mg base 3 "is_word" [] (S_is_word K mg) := by
  obtain ⟨f, fd, D⟩ := T.d_is_word
  exact cal_mk D (fn_is_word T D)
/-! ### is_image -/
abbrev N_is_image : List Str := ["thing", "one", "word"]
theorem sc_is_image : FnScope N_is_image ["thing"] (defScope s_is_image) := ⟨rfl, rfl, rfl, by decide +kernel, rfl, by decide +kernel, by decide +kernel⟩
def S_is_image (K : PySem.W.Frag) (mg : Str → Option Value) : Sp := sp1 fun a H Q _ => (∃ n, Thing K H a n ∧ n ≠ "tuple" ∧ Q (.bl false) H) ∨ ∃ p xs, a = .ref p ∧ SqT K H p xs ∧ (∀ x ∈ xs, ∃ n, Thing K H x n) ∧ ∀ H', Same H H' → Q (.bl (imgB xs)) H'
theorem fn_is_image (T : Top K mg) {f : Addr} {fd : FuncData} (D : DefAt K mg "is_image" s_is_image ["thing"] f fd) : FnG Room P w K mg base 4 f fd ["thing"] (S_is_image K mg) := by
  refine fn_of_body rl_room D.fn sc_is_image (fun vs H Q E h => by obtain ⟨_, rfl, _⟩ := h; rfl) (fun cdv A outer s H vs Q E hr h => ?_)
  obtain ⟨a, rfl, h⟩ := h
  have nd : N_is_image.Nodup := sc_is_image.nd
  refine ⟨_, pss_cons (ps_if (PW.pt (pw_or (pt_not (pt_val (pe_callB (call_isB) (by rfl) T.b_isinstance (by decide +kernel) (pa_cons (pv 0) (pa_cons (pe_bltn (v := .ty "tuple") rfl T.b_tuple boot_tuple rfl) (pa_nil)))))) (pw_or (pt_not (pt_chain (op_le) (op_le) (pe_int) (pe_callB (call_len_seq) (by rfl) T.b_len (PySem.boot_len) (pa_cons (pv 0) (pa_nil))) (pe_gi T.c_MOST_LENGTH))) (pw_or1 (pt_not (pt_val (pe_callB (cr_all rfl) (by rfl) T.b_all (by decide +kernel) (pa_cons (pe_lc (own := [("one", 1)]) (g := gName 1) (tt := tYes) rfl nd (pi_tup (pv 0)) (blkOk_by (own := [("one", 1)]) (N := N_is_image) (sc := defScope s_is_image) (by decide +kernel)) (fun _ _ _ _ _ => pg_name (i := 1) nd rfl (Or.inl rfl)) (fun _ _ _ _ _ => pts_nil) (fun _ _ _ _ _ => pe_c (cal_is_word T) hr passL (pa_cons (pv 1) (pa_nil)))) (pa_nil))))))))) (pss_one (ps_ret (pe_bl))) (pss_nil))
  (pss_one (ps_ret (pe_callB (cr_all rfl) (by rfl) T.b_all (by decide +kernel) (pa_cons (pe_lc (own := [("word", 2)]) (g := gName 2) (tt := tYes) rfl nd (pi_tup (pv 0)) (blkOk_by (own := [("word", 2)]) (N := N_is_image) (sc := defScope s_is_image) (by decide +kernel)) (fun _ _ _ _ _ => pg_name (i := 2) nd rfl (Or.inl rfl)) (fun _ _ _ _ _ => pts_nil) (fun _ _ _ _ _ => pe_c (cal_leads_within T) hr passL (pa_cons (pv 2) (pa_cons (pe_callB (call_lenK (K := K) rfl) (by rfl) T.b_len (PySem.boot_len) (pa_cons (pv 0) (pa_nil))) (pa_nil))))) (pa_nil))))), ?_⟩
  rcases h with ⟨n, th, hn, q⟩ | ⟨p, xs, rfl, hs, hx, q⟩
  · refine ⟨_, rfl, _, _, _, rfl, th, (by decide), _, rfl, ?_⟩
    have e : subB n "tuple" = false := by
      have := th.name
      simp only [plainTys, List.mem_cons, List.not_mem_nil, or_false] at this
      rcases this with rfl | rfl | rfl | rfl | rfl | rfl | rfl <;> first | rfl | exact absurd rfl hn
    rw [e]
    exact iteT (iteT q)
  · refine ⟨_, rfl, _, _, _, rfl, thing_tup hs, (by decide), _, rfl, ?_⟩
    refine iteF ⟨_, rfl, p, _, rfl, .inr hs, _, _, rfl, rfl, _, rfl, ?_⟩
    unfold imgB at q
    cases e1 : decide (1 ≤ (xs.length : Int)) with
    | false =>
      rw [e1, Bool.false_and] at q
      exact iteF ⟨_, rfl, iteT (iteT (q H (Same.refl H)))⟩
    | true =>
      rw [e1, Bool.true_and] at q
      refine iteT ⟨_, _, rfl, rfl, _, rfl, ?_⟩
      cases e2 : decide ((xs.length : Int) ≤ 1000) with
      | false =>
        rw [e2, Bool.false_and] at q
        exact iteT (iteT (q H (Same.refl H)))
      | true =>
        rw [e2, Bool.true_and] at q
        have hz : xs.length ≤ sizeLine := Nat.le_trans (by have := of_decide_eq_true e2; omega : xs.length ≤ 1000) (by decide)
        refine iteF ⟨_, rfl, p, rfl, ⟨_, hs⟩, fun D hD => lc_map walk_tup (xs.map fun v => V.bl (btwV v 0 65535)) (by simp) hz (fun _ => sqT_up hs hD) ?_ ?_⟩
        · rintro i v H1 H2 R hi e ⟨rfl, hv⟩ hR
          obtain ⟨n, th⟩ := hx v (List.mem_of_getElem? hv)
          refine ⟨rfl, _, rfl, _, rfl, n, thing_same (by rw [e]; exact same_upd hD) th, hR _ ?_⟩
          rw [List.getElem?_map, hv]
          rfl
        · have s1 : Same H (upd H D (.lst (xs.map fun v => V.bl (btwV v 0 65535)))) := same_upd hD
          refine ⟨D, xs.map fun v => btwV v 0 65535, rfl, ?_, _, rfl, ?_⟩
          · rw [List.map_map]
            exact SqL.of upd_same
          rw [List.all_map]
          show if (!(xs.all fun v => btwV v 0 65535)) = true then _ else _
          cases e3 : xs.all fun v => btwV v 0 65535 with
          | false =>
            rw [e3, Bool.false_and] at q
            exact iteT (q _ s1)
          | true =>
            rw [e3, Bool.true_and] at q
            refine iteF ⟨_, rfl, p, rfl, ⟨_, sqT_same s1 hs⟩, fun D2 hD2 => lc_map walk_tup (xs.map fun v => V.bl (leadsV xs.length v)) (by simp) hz (fun _ => sqT_up (sqT_same s1 hs) hD2) ?_ ?_⟩
            · rintro i v H1 H2 R hi e ⟨rfl, hv⟩ hR
              obtain ⟨k, rfl, _⟩ := btwV_ex (List.all_eq_true.mp e3 v (List.mem_of_getElem? hv))
              have hs2 : SqT K H2 p xs := by rw [e]; exact sqT_up (sqT_same s1 hs) hD2
              refine ⟨rfl, _, rfl, _, rfl, p, _, rfl, .inr hs2, _, _, rfl, k, _, rfl, rfl, hR _ ?_⟩
              rw [List.getElem?_map, hv]
              rfl
            · refine ⟨D2, xs.map fun v => leadsV xs.length v, rfl, ?_, ?_⟩
              · rw [List.map_map]
                exact SqL.of upd_same
              rw [List.all_map]
              exact q _ (Same.trans s1 (same_upd hD2))
theorem cal_is_image (T : Top K mg) : Cal Room P w K mg base 4 "is_image" [] (S_is_image K mg) := by
  obtain ⟨f, fd, D⟩ := T.d_is_image
  exact cal_mk D (fn_is_image T D)
/-! ### need_image -/
abbrev N_need_image : List Str := ["thing"]
theorem sc_need_image : FnScope N_need_image ["thing"] (defScope s_need_image) := ⟨rfl, rfl, rfl, by decide +kernel, rfl, by decide +kernel, by decide +kernel⟩
def S_need_image (K : PySem.W.Frag) (mg : Str → Option Value) : Sp := sp1 fun a H Q E => (∃ n, Thing K H a n ∧ n ≠ "tuple" ∧ ∀ C, mg "NoImage" = some (.ref C) → E (.ref C) none H) ∨ ∃ p xs, a = .ref p ∧ SqT K H p xs ∧ (∀ x ∈ xs, ∃ n, Thing K H x n) ∧
  ∀ H', Same H H' → (imgB xs = true → Q .non H') ∧ (imgB xs = false → ∀ C, mg "NoImage" = some (.ref C) → E (.ref C) none H')
theorem fn_need_image (T : Top K mg) {f : Addr} {fd : FuncData} (D : DefAt K mg "need_image" s_need_image ["thing"] f fd) : FnG Room P w K mg base 5 f fd ["thing"] (S_need_image K mg) := by
  refine fn_of_body rl_room D.fn sc_need_image (fun vs H Q E h => by obtain ⟨_, rfl, _⟩ := h; rfl) (fun cdv A outer s H vs Q E hr h => ?_)
  obtain ⟨a, rfl, h⟩ := h
  have nd : N_need_image.Nodup := sc_need_image.nd
  refine ⟨_, pss_one (ps_if (pt_not (pt_val (pe_c (cal_is_image T) hr pass (pa_cons (pv 0) (pa_nil))))) (pss_one (ps_raise rfl (takes_of rfl rfl rfl rfl) (G.pmk_own T.k_NoImage))) (pss_nil)), ?_⟩
  rcases h with ⟨n, th, hn, q⟩ | ⟨p, xs, rfl, hs, hx, q⟩
  · exact ⟨_, rfl, _, rfl, .inl ⟨n, th, hn, _, rfl, iteT q⟩⟩
  · refine ⟨_, rfl, _, rfl, .inr ⟨p, xs, rfl, hs, hx, fun H' s => ⟨_, rfl, ?_⟩⟩⟩
    obtain ⟨q1, q2⟩ := q H' s
    cases e : imgB xs with
    | true => exact iteF (q1 e)
    | false => exact iteT (q2 e)
theorem cal_need_image (T : Top K mg) : Cal Room P w K mg base 5 "need_image" [] (S_need_image K mg) := by
  obtain ⟨f, fd, D⟩ := T.d_need_image
  exact cal_mk D (fn_need_image T D)
/-! ### row_by -/
abbrev N_row_by : List Str := ["word"]
theorem sc_row_by : FnScope N_row_by ["word"] (defScope s_row_by) := ⟨rfl, rfl, rfl, by decide +kernel, rfl, by decide +kernel, by decide +kernel⟩
def S_row_by (K : PySem.W.Frag) (mg : Str → Option Value) : Sp := sp1 fun a H Q _ => ∃ i, a = .int i ∧ 0 ≤ i ∧ i ≤ 65535 ∧ Q (.str (rowT i)) H
theorem fn_row_by (T : Top K mg) {f : Addr} {fd : FuncData} (D : DefAt K mg "row_by" s_row_by ["word"] f fd) : FnG Room P w K mg base 2 f fd ["word"] (S_row_by K mg) := by
  refine fn_of_body rl_room D.fn sc_row_by (fun vs H Q E h => by obtain ⟨_, rfl, _⟩ := h; rfl) (fun cdv A outer s H vs Q E hr h => ?_)
  obtain ⟨a, rfl, h⟩ := h
  have nd : N_row_by.Nodup := sc_row_by.nd
  obtain ⟨a_KINDS, m_KINDS, s_KINDS⟩ := T.c_KINDS
  refine ⟨_, pss_one (ps_ret (G.pe_joinT (PJ.cons (pe_fmt (pe_ix (ix_tup) (pe_glob (v := .ref a_KINDS) rfl m_KINDS rfl) (pe_c (cal_kind_by T) hr pass (pa_cons (pv 0) (pa_nil))) (fun _ _ => rfl))) (PJ.cons (pe_str) (PJ.cons (pe_fmt (pe_c (cal_address_by T) hr pass (pa_cons (pv 0) (pa_nil)))) (PJ.nil)))))), ?_⟩
  obtain ⟨i, rfl, h0, h1, q⟩ := h
  have hk : 0 ≤ i / 4096 ∧ i / 4096 < 16 := by omega
  have hn : (i / 4096).toNat < KN.length := by show (i / 4096).toNat < 16; omega
  have e1 : (KN.map V.str)[(i / 4096).toNat]? = some (V.str (KN.getD (i / 4096).toNat Str.empty)) := by
    rw [List.getElem?_map, List.getD_eq_getElem?_getD, List.getElem?_eq_getElem hn]
    rfl
  have e2 : ∀ n : Nat, n < 16 → (KN.getD n Str.empty).length ≤ 5 := by decide +kernel
  have e3 := e2 (i / 4096).toNat (by omega)
  have e4 : (Str.ofString (toString (i % 4096))).length ≤ 1921 := int_text_len_1921 (log_fine (by omega))
  have s5 : (6000 : Nat) ≤ sizeLine := by decide
  have hx : SqT K H a_KINDS (KN.map V.str) := s_KINDS.sq H
  have l0 : Str.empty.length = 0 := rfl
  have l1 : (" " : Str).length = 1 := rfl
  refine ⟨_, rfl, _, rfl, i, rfl, _, _, _, _, rfl, rfl, hx, atI_int hk.1 e1, .inl ⟨_, rfl, by omega, _, rfl, ?_, _, rfl, ?_, _, rfl, _, rfl, i, rfl, .inr ⟨_, rfl, log_fine (by omega), _, rfl, ?_, q⟩⟩⟩
  all_goals
    simp only [Str.length_append, l0, l1]
    omega
theorem cal_row_by (T : Top K mg) : Cal Room P w K mg base 2 "row_by" [] (S_row_by K mg) := by
  obtain ⟨f, fd, D⟩ := T.d_row_by
  exact cal_mk D (fn_row_by T D)
/-! ### listed -/
abbrev N_listed : List Str := ["image", "number", "word"]
theorem sc_listed : FnScope N_listed ["image"] (defScope s_listed) := ⟨rfl, rfl, rfl, by decide +kernel, rfl, by decide +kernel, by decide +kernel⟩
def S_listed (K : PySem.W.Frag) (mg : Str → Option Value) : Sp := sp1 fun a H Q E => (∃ n, Thing K H a n ∧ n ≠ "tuple" ∧ ∀ C, mg "NoImage" = some (.ref C) → E (.ref C) none H) ∨ ∃ p xs, a = .ref p ∧ SqT K H p xs ∧ (∀ x ∈ xs, ∃ n, Thing K H x n) ∧
  (∀ H', Same H H' → imgB xs = false → ∀ C, mg "NoImage" = some (.ref C) → E (.ref C) none H') ∧ (∀ H' ws, Same H H' → imgB xs = true → xs = ws.map V.int → Words ws → ws.length ≤ 1000 → ws ≠ [] → Q (.str (listT ws)) H')
theorem fn_listed (T : Top K mg) {f : Addr} {fd : FuncData} (D : DefAt K mg "listed" s_listed ["image"] f fd) : FnG Room P w K mg base 6 f fd ["image"] (S_listed K mg) := by
  refine fn_of_body rl_room D.fn sc_listed (fun vs H Q E h => by obtain ⟨_, rfl, _⟩ := h; rfl) (fun cdv A outer s H vs Q E hr h => ?_)
  obtain ⟨a, rfl, h⟩ := h
  have nd : N_listed.Nodup := sc_listed.nd
  refine ⟨_, pss_cons (ps_expr (pe_c (cal_need_image T) hr pass (pa_cons (pv 0) (pa_nil))))
  (pss_one (ps_ret (pe_bm PySem.F.plainAttrs_str PySem.F.slot_str_join PySem.F.type_str_join (mt_join) (pe_str) (pa_cons (pe_lc (own := [("number", 1), ("word", 2)]) (g := gTup K 2 (gCons (gName 1) (gCons (gName 2) (gNil)))) (tt := tYes) rfl nd (pi_enumT (by rfl) T.b_enumerate (pa_cons (pv 0) (pa_nil))) (blkOk_by (own := [("number", 1), ("word", 2)]) (N := N_listed) (sc := defScope s_listed) (by decide +kernel)) (fun _ _ _ _ _ => pg_tup rfl (pgs_cons (pg_name (i := 1) nd rfl (Or.inl rfl)) (pgs_cons (pg_name (i := 2) nd rfl (Or.inl rfl)) (pgs_nil)))) (fun _ _ _ _ _ => pts_nil) (fun _ _ _ _ _ => G.pe_joinT (PJ.cons (pe_fmt (pv 1)) (PJ.cons (pe_str) (PJ.cons (pe_fmt (pe_c (cal_row_by T) (hr.mono (by decide)) passL (pa_cons (pv 2) (pa_nil)))) (PJ.cons (pe_str) (PJ.nil))))))) (pa_nil))))), ?_⟩
  rcases h with ⟨n, th, hn, q⟩ | ⟨p, xs, rfl, hs, hx, qe, q⟩
  · exact ⟨_, rfl, _, rfl, .inl ⟨n, th, hn, q⟩⟩
  · refine ⟨_, rfl, _, rfl, .inr ⟨p, xs, rfl, hs, hx, fun H' s => ⟨fun e => ?_, fun e => qe H' s e⟩⟩⟩
    obtain ⟨ws, rfl, hw, hl, hne⟩ := imgB_ws e
    have hs2 : SqT K H' p (ws.map V.int) := sqT_same s hs
    have hrl := rows_len hl hw
    have hsz : 17000 ≤ sizeLine := by decide
    refine ⟨rfl, _, rfl, p, _, rfl, hs2, fun D hD => ?_⟩
    refine lc_mapS walk_enumT ((rowsN ws).map V.str) (by simp [rowsN_n]) (by rw [List.length_map]; omega) hD (fun H3 s3 => sqT_same s3 hs2) ?_ ?_
    · rintro i v H2 H3 R hi s2 ⟨T2, v1, v2, rfl, nt, rfl, e1, e2⟩ hR
      cases e1
      replace e2 : (ws.map V.int)[i]? = some v2 := e2
      rw [List.length_map] at hi
      rw [List.getElem?_map, List.getElem?_eq_getElem hi] at e2
      cases e2
      obtain ⟨w0, w1⟩ := hw _ (List.getElem_mem hi)
      have h4 := ahead_len (i := i) (by omega)
      have h16 := line_len (i := i) (w := ws[i]) (by omega) ⟨w0, w1⟩
      have hal : ((Str.empty ++ Str.ofString (toString (i : Int))) ++ (" " : Str)).length ≤ sizeLine := Nat.le_trans h4 (by decide)
      have hal0 := hal
      rw [Str.length_append] at hal0
      have h16' : (aheadOf i ++ rowT ws[i]).length ≤ 16 := h16
      have h17 : ((aheadOf i ++ rowT ws[i]) ++ ("\n" : Str)).length ≤ 17 := by
        rw [Str.length_append]
        exact Nat.add_le_add h16' (Nat.le_refl 1)
      refine ⟨T2, _, rfl, SqT.of upd_same, rfl, _, _, rfl, _, _, rfl, rfl, rfl, ?_⟩
      refine ⟨_, rfl, .inr ⟨_, rfl, log_fine (by omega), _, rfl, by omega, _, rfl, hal, _, rfl, _, rfl, _, rfl, w0, w1, .inl ⟨_, rfl, by have := rowT_len w0 w1; omega, _, rfl, Nat.le_trans h16' (by omega), _, rfl, Nat.le_trans h17 (by omega), hR _ _ ?_ (same_upd nt)⟩⟩⟩
      rw [List.getElem?_map, rowsN_at, List.getElem?_eq_getElem hi]
      rfl
    · rintro H2 s2 hD2
      refine ⟨"", D, rowsN ws, rfl, rfl, .inl (SqL.of hD2), ?_, q H2 ws (Same.trans s s2) e rfl hw hl hne⟩
      have h2 := sum_lens hrl
      rw [rowsN_n] at h2 ⊢
      rw [show ("" : Str).length = 0 from rfl, Nat.mul_zero]
      omega
def gk_listed_0_image {α : Type} : List α → List α → List α
  | [], [w0] => [w0]
  | _, _ => []
theorem gk_listed_0_image_rel {vs zs : List V} {us ws : List Value} (r : Vals vs us) (q : Vals zs ws) : Vals (gk_listed_0_image vs zs) (gk_listed_0_image us ws) := by
  cases r with
  | cons _ _ => exact .nil
  | nil =>
    cases q with
    | nil => exact .nil
    | cons w0 qx =>
      cases qx with
      | cons _ _ => exact .nil
      | nil =>
        exact .cons w0 (.nil)
theorem cal_listed_k0_image (T : Top K mg) : CalK Room P w K mg base 6 "listed" ["image"] gk_listed_0_image (S_listed K mg) := by
  obtain ⟨f, fd, D⟩ := T.d_listed
  refine calK_mk (g := @gk_listed_0_image) D (fn_listed T D) (fun r q => gk_listed_0_image_rel r q) (fun _ _ _ _ _ _ us ws hl => ?_)
  match us, ws, hl with
  | [], [_], _ => rfl
theorem cal_listed (T : Top K mg) : Cal Room P w K mg base 6 "listed" [] (S_listed K mg) := by
  obtain ⟨f, fd, D⟩ := T.d_listed
  exact cal_mk D (fn_listed T D)
/-! ### figures_in -/
abbrev N_figures_in : List Str := ["text", "most", "sign"]
theorem sc_figures_in : FnScope N_figures_in ["text", "most"] (defScope s_figures_in) := ⟨rfl, rfl, rfl, by decide +kernel, rfl, by decide +kernel, by decide +kernel⟩
def S_figures_in (K : PySem.W.Frag) (mg : Str → Option Value) : Sp := sp2 fun a b H Q _ => ∃ x m, a = .str x ∧ b = .int m ∧ x.length ≤ sizeLine ∧ m ≤ 640 ∧ ∀ H', Same H H' → Q (optV (figsIn x m)) H'
theorem fn_figures_in (T : Top K mg) {f : Addr} {fd : FuncData} (D : DefAt K mg "figures_in" s_figures_in ["text", "most"] f fd) : FnG Room P w K mg base 1 f fd ["text", "most"] (S_figures_in K mg) := by
  refine fn_of_body rl_room D.fn sc_figures_in (fun vs H Q E h => by obtain ⟨_, _, rfl, _⟩ := h; rfl) (fun cdv A outer s H vs Q E hr h => ?_)
  obtain ⟨a, b, rfl, h⟩ := h
  have nd : N_figures_in.Nodup := sc_figures_in.nd
  refine ⟨_, pss_cons (ps_if (PW.pt (pw_or (pt_not (pt_chain (op_le) (op_le) (pe_int) (pe_callB call_len_str (by rfl) T.b_len PySem.boot_len (pa_cons (pv 0) (pa_nil))) (pv 1))) (pw_or1 (pt_not (pt_val (pe_callB (cr_all rfl) (by rfl) T.b_all (by decide +kernel) (pa_cons (pe_lc (own := [("sign", 2)]) (g := gName 2) (tt := tYes) rfl nd (pi_str (pv 0)) (blkOk_by (own := [("sign", 2)]) (N := N_figures_in) (sc := defScope s_figures_in) (by decide +kernel)) (fun _ _ _ _ _ => pg_name (i := 2) nd rfl (Or.inl rfl)) (fun _ _ _ _ _ => pts_nil) (fun _ _ _ _ _ => pe_cmpR (op_in_sign) (pv 2) (pe_gs T.c_FIGURES) (by rfl))) (pa_nil)))))))) (pss_one (ps_ret (pe_non))) (pss_nil))
  (pss_one (ps_ret (pe_ifExp (PW.pt (pw_and (pt_cmpR (op_eq) (pe_ix (ix_str) (pv 0) (pe_int) (fun _ _ => rfl)) (pe_str) (nomark _)) (pw_and1 (pt_cmpR (op_ne) (pv 0) (pe_str) (nomark _))))) (pe_non) (pe_callTy (call_int_str) (by rfl) T.b_int (by decide +kernel) (pa_cons (pv 0) (pa_nil)))))), ?_⟩
  obtain ⟨x, m, rfl, rfl, hz, hm, q⟩ := h
  refine ⟨_, rfl, _, rfl, hz, _, _, rfl, rfl, _, rfl, ?_⟩
  cases e1 : decide (1 ≤ (x.length : Int)) with
  | false =>
    refine iteF ⟨_, rfl, iteT (iteT ?_)⟩
    have := q H (Same.refl H)
    rw [show figsIn x m = none by unfold figsIn; rw [e1]; rfl] at this
    exact this
  | true =>
    refine iteT ⟨_, rfl, _, _, rfl, rfl, _, rfl, ?_⟩
    cases e2 : decide ((x.length : Int) ≤ m) with
    | false =>
      refine iteT (iteT ?_)
      have := q H (Same.refl H)
      rw [show figsIn x m = none by unfold figsIn; rw [e1, e2]; rfl] at this
      exact this
    | true =>
      refine iteF ⟨_, rfl, x, rfl, fun D hD => lc_map walk_str (x.cps.toList.map fun c => V.bl (isDig c)) (by simp) hz (fun _ => trivial) ?_ ?_⟩
      · rintro i v H' H'' R hi e ⟨rfl, c, hc, rfl⟩ hR
        refine ⟨rfl, _, rfl, c, _, rfl, rfl, ?_⟩
        rw [isDig_mem]
        refine hR _ ?_
        rw [List.getElem?_map, Array.getElem?_toList, hc]
        rfl
      · have sm : Same H (upd H D (.lst (x.cps.toList.map fun c => V.bl (isDig c)))) := fun b o h => upd_old h hD
        have q2 := q _ sm
        refine ⟨D, x.cps.toList.map isDig, rfl, ?_, _, rfl, ?_⟩
        · rw [List.map_map]
          exact SqL.of upd_same
        have e3 : (x.cps.toList.map isDig).all id = x.cps.toList.all isDig := by rw [List.all_map]; rfl
        rw [e3]
        cases e4 : x.cps.toList.all isDig with
        | false =>
          rw [show figsIn x m = none by unfold figsIn; rw [e1, e2, e4]; rfl] at q2
          exact iteT q2
        | true =>
          have e1' : 1 ≤ (x.length : Int) := of_decide_eq_true e1
          have e2' : (x.length : Int) ≤ m := of_decide_eq_true e2
          have hlen : x.cps.toList.length = x.length := by rw [Array.length_toList]; rfl
          have hfi : figsIn x m = (if x.cps.toList.head? = some 48 ∧ x ≠ "0" then none else some ((NumText.digitsVal x.cps.toList : Nat) : Int)) := by unfold figsIn; rw [e1, e2, e4]; rfl
          rw [hfi] at q2
          obtain ⟨c, r, hcr⟩ : ∃ c r, x.cps.toList = c :: r := by
            cases e : x.cps.toList with
            | nil => rw [e] at hlen; simp at hlen; omega
            | cons c r => exact ⟨c, r, rfl⟩
          have hat : atI x.cps.toList 0 = some c := atI_int (by decide) (by rw [hcr]; rfl)
          have hint : PySem.intText? x = some ((NumText.digitsVal x.cps.toList : Nat) : Int) := by
            refine PySem.intText_digits (fun d hd => ?_) (by rw [hcr]; exact List.cons_ne_nil _ _) (by omega)
            have h5 := List.all_eq_true.mp e4 d hd
            simp only [isDig, Bool.and_eq_true, decide_eq_true_eq] at h5
            exact h5
          refine iteF ⟨_, rfl, _, _, _, rfl, rfl, hz, hat, rfl, _, rfl, ?_⟩
          have ed : decide (V.str ⟨#[c]⟩ = V.str "0") = decide (c = 48) := by
            refine decide_eq_decide.mpr ⟨fun z => ?_, fun z => by subst z; rfl⟩
            have z2 : (⟨#[c]⟩ : Str) = "0" := V.str.inj z
            have z3 : ([c] : List Nat) = [48] := congrArg (fun y : Str => y.cps.toList) z2
            exact (List.cons.inj z3).1
          rw [ed]
          by_cases h48 : c = 48
          · rw [decide_eq_true h48]
            refine iteT ⟨_, rfl, rfl, _, rfl, ?_⟩
            by_cases hx0 : x = "0"
            · have ed2 : (!decide (V.str x = V.str "0")) = false := by rw [hx0]; rfl
              rw [ed2]
              refine iteF ⟨_, rfl, x, _, rfl, hint, by omega, ?_⟩
              rw [if_neg (fun z => z.2 hx0)] at q2
              exact q2
            · have ed2 : (!decide (V.str x = V.str "0")) = true := by
                rw [decide_eq_false (fun z => hx0 (V.str.inj z))]
                rfl
              rw [ed2]
              refine iteT ?_
              rw [if_pos ⟨by rw [hcr, h48]; rfl, hx0⟩] at q2
              exact q2
          · rw [decide_eq_false h48]
            refine iteF (iteF ⟨_, rfl, x, _, rfl, hint, by omega, ?_⟩)
            rw [if_neg (fun z => h48 (by rw [hcr] at z; exact Option.some.inj z.1))] at q2
            exact q2
theorem cal_figures_in (T : Top K mg) : Cal Room P w K mg base 1 "figures_in" [] (S_figures_in K mg) := by
  obtain ⟨f, fd, D⟩ := T.d_figures_in
  exact cal_mk D (fn_figures_in T D)
/-! ### word_by -/
abbrev N_word_by : List Str := ["kind", "address"]
theorem sc_word_by : FnScope N_word_by ["kind", "address"] (defScope s_word_by) := ⟨rfl, rfl, rfl, by decide +kernel, rfl, by decide +kernel, by decide +kernel⟩
def S_word_by (K : PySem.W.Frag) (mg : Str → Option Value) : Sp := sp2 fun a b H Q _ => ∃ i j, a = .int i ∧ b = .int j ∧ Q (.int (i * 4096 + j)) H
theorem fn_word_by (T : Top K mg) {f : Addr} {fd : FuncData} (D : DefAt K mg "word_by" s_word_by ["kind", "address"] f fd) : FnG Room P w K mg base 1 f fd ["kind", "address"] (S_word_by K mg) := by
  refine fn_of_body rl_room D.fn sc_word_by (fun vs H Q E h => by obtain ⟨_, _, rfl, _⟩ := h; rfl) (fun cdv A outer s H vs Q E hr h => ?_)
  obtain ⟨a, b, rfl, h⟩ := h
  have nd : N_word_by.Nodup := sc_word_by.nd
  refine ⟨_, pss_one (ps_ret (pe_op (op_add) (pe_op (op_mul) (pv 0) (pe_gi T.c_SPAN)) (pv 1))), ?_⟩
  obtain ⟨i, j, rfl, rfl, q⟩ := h
  exact ⟨_, rfl, _, _, rfl, rfl, .inr ⟨by decide, by decide⟩, _, rfl, _, _, rfl, rfl, q⟩
theorem cal_word_by (T : Top K mg) : Cal Room P w K mg base 1 "word_by" [] (S_word_by K mg) := by
  obtain ⟨f, fd, D⟩ := T.d_word_by
  exact cal_mk D (fn_word_by T D)
/-! ### row_in -/
abbrev N_row_in : List Str := ["text", "kind", "between", "rest", "number"]
theorem sc_row_in : FnScope N_row_in ["text"] (defScope s_row_in) := ⟨rfl, rfl, rfl, by decide +kernel, rfl, by decide +kernel, by decide +kernel⟩
def S_row_in (K : PySem.W.Frag) (mg : Str → Option Value) : Sp := sp1 fun a H Q _ => ∃ x, a = .str x ∧ x.length ≤ sizeLine ∧ ∀ H', Same H H' → Q (optV (rowIn x)) H'
theorem fn_row_in (T : Top K mg) {f : Addr} {fd : FuncData} (D : DefAt K mg "row_in" s_row_in ["text"] f fd) : FnG Room P w K mg base 2 f fd ["text"] (S_row_in K mg) := by
  refine fn_of_body rl_room D.fn sc_row_in (fun vs H Q E h => by obtain ⟨_, rfl, _⟩ := h; rfl) (fun cdv A outer s H vs Q E hr h => ?_)
  obtain ⟨a, rfl, h⟩ := h
  have nd : N_row_in.Nodup := sc_row_in.nd
  obtain ⟨a_KINDS, m_KINDS, s_KINDS⟩ := T.c_KINDS
  refine ⟨_, pss_cons (ps_asg (pe_partition (pv 0) (pe_str)) (pg_tup rfl (pgs_cons (pg_name (i := 1) nd rfl (Or.inl rfl)) (pgs_cons (pg_name (i := 2) nd rfl (Or.inl rfl)) (pgs_cons (pg_name (i := 3) nd rfl (Or.inl rfl)) (pgs_nil))))))
  (pss_cons (ps_set (i := 4) nd rfl (Or.inl rfl) (pe_c (cal_figures_in T) hr pass (pa_cons (pv 3) (pa_cons (pe_gi T.c_MOST_FIGURES) (pa_nil)))))
  (pss_cons (ps_if (PW.pt (pw_or (pt_cmpR (op_notIn_seq) (pv 1) (pe_glob (v := .ref a_KINDS) rfl m_KINDS rfl) (by rfl)) (pw_or (pt_cmpR (op_eq) (pv 2) (pe_str) (nomark _)) (pw_or (pt_cmp (pc_isN (pv 4))) (pw_or1 (pt_cmpR (op_gt) (pv 4) (pe_gi T.c_MOST_ADDRESS) (nomark _))))))) (pss_one (ps_ret (pe_non))) (pss_nil))
  (pss_one (ps_ret (pe_c (cal_word_by T) hr pass (pa_cons (pe_bm PySem.F.plainAttrs_tuple PySem.F.slot_tuple_index PySem.F.type_tuple_index (mt_tup_index) (pe_glob (v := .ref a_KINDS) rfl m_KINDS rfl) (pa_cons (pv 1) (pa_nil))) (pa_cons (pv 4) (pa_nil)))))))), ?_⟩
  obtain ⟨x, rfl, hz, q⟩ := h
  have hx : ∀ H, SqT K H a_KINDS (KN.map V.str) := fun H => s_KINDS.sq H
  refine ⟨_, rfl, ⟨_, rfl⟩, x, " ", rfl, rfl, rfl, hz, fun p hp => ⟨p, _, rfl, SqT.of upd_same, rfl, _, _, rfl, _, _, rfl, _, _, rfl, rfl, ?_⟩⟩
  have hr : (Txt.partition x " ").2.2.length ≤ sizeLine := Nat.le_trans (part_len x) hz
  refine ⟨_, rfl, _, _, rfl, _, 4, rfl, rfl, hr, by decide, fun H2 s2 => ?_⟩
  have q2 := q H2 (Same.trans (fun b o e => upd_old e hp) s2)
  unfold rowIn at q2
  refine ⟨_, rfl, a_KINDS, _, rfl, .inr (hx H2), rfl, flat_strs KN, ?_⟩
  rw [inV_strs]
  refine ⟨_, rfl, ?_⟩
  by_cases hk : (Txt.partition x " ").1 ∈ KN
  · rw [decide_eq_true hk]
    refine iteF ⟨_, rfl, rfl, _, rfl, ?_⟩
    by_cases hb : (Txt.partition x " ").2.1 = ""
    · rw [hb]
      refine iteT (iteT ?_)
      cases e : figsIn (Txt.partition x " ").2.2 4 with
      | none => rw [e] at q2; exact q2
      | some n => rw [e] at q2; simp only [hb, ne_eq, not_true_eq_false, false_and, and_false, ↓reduceIte] at q2; exact q2
    · have ed : decide (V.str (Txt.partition x " ").2.1 = V.str "") = false := decide_eq_false fun z => hb (V.str.inj z)
      rw [ed]
      refine iteF ⟨_, rfl, _, rfl, ?_⟩
      cases e : figsIn (Txt.partition x " ").2.2 4 with
      | none => rw [e] at q2; exact iteT (iteT q2)
      | some n =>
        rw [e] at q2
        refine iteF ⟨_, rfl, _, _, rfl, rfl, _, rfl, ?_⟩
        by_cases h4 : n ≤ 4095
        · rw [decide_eq_false (show ¬ (4095 : Int) < n by omega)]
          refine iteF ?_
          simp only [hk, hb, h4, ne_eq, not_false_eq_true, and_self, ↓reduceIte] at q2
          exact ⟨s_KINDS.ty H2, _, rfl, a_KINDS, KN, _, _, rfl, rfl, hx H2, knIdx_get hk, fun m => knIdx_first, _, rfl, _, _, rfl, _, _, rfl, rfl, q2⟩
        · rw [decide_eq_true (show (4095 : Int) < n by omega)]
          simp only [h4, and_false, ↓reduceIte] at q2
          exact iteT q2
  · rw [decide_eq_false hk]
    refine iteT (iteT ?_)
    cases e : figsIn (Txt.partition x " ").2.2 4 with
    | none => rw [e] at q2; exact q2
    | some n => rw [e] at q2; simp only [hk, false_and, ↓reduceIte] at q2; exact q2
theorem cal_row_in (T : Top K mg) : Cal Room P w K mg base 2 "row_in" [] (S_row_in K mg) := by
  obtain ⟨f, fd, D⟩ := T.d_row_in
  exact cal_mk D (fn_row_in T D)
/-! ### line_in -/
abbrev N_line_in : List Str := ["number", "line", "ahead"]
theorem sc_line_in : FnScope N_line_in ["number", "line"] (defScope s_line_in) := ⟨rfl, rfl, rfl, by decide +kernel, rfl, by decide +kernel, by decide +kernel⟩
def S_line_in (K : PySem.W.Frag) (mg : Str → Option Value) : Sp := sp2 fun a b H Q _ => ∃ (i : Nat) (w : Int), a = .int (i : Int) ∧ b = .str (lineOf i w) ∧ i < 1000 ∧ 0 ≤ w ∧ w ≤ 65535 ∧ ∀ H', Same H H' → Q (.int w) H'
theorem fn_line_in (T : Top K mg) {f : Addr} {fd : FuncData} (D : DefAt K mg "line_in" s_line_in ["number", "line"] f fd) : FnG Room P w K mg base 3 f fd ["number", "line"] (S_line_in K mg) := by
  refine fn_of_body rl_room D.fn sc_line_in (fun vs H Q E h => by obtain ⟨_, _, rfl, _⟩ := h; rfl) (fun cdv A outer s H vs Q E hr h => ?_)
  obtain ⟨a, b, rfl, h⟩ := h
  have nd : N_line_in.Nodup := sc_line_in.nd
  refine ⟨_, pss_cons (ps_set (i := 2) nd rfl (Or.inl rfl) (G.pe_joinT (PJ.cons (pe_fmt (pv 0)) (PJ.cons (pe_str) (PJ.nil)))))
  (pss_one (ps_ret (pe_ifExp (pt_val (pe_bm PySem.F.plainAttrs_str PySem.F.slot_str_startswith PySem.F.type_str_startswith (mt_startswith) (pv 1) (pa_cons (pv 2) (pa_nil)))) (pe_c (cal_row_in T) hr pass (pa_cons (pe_slice (sl_str) (pv 1) (po_some (pe_callB call_len_str (by rfl) T.b_len PySem.boot_len (pa_cons (pv 2) (pa_nil)))) (po_none)) (pa_nil))) (pe_non)))), ?_⟩
  obtain ⟨i, w, rfl, rfl, hi, w0, w1, q⟩ := h
  have h4 := ahead_len hi
  have h16 := line_len hi ⟨w0, w1⟩
  have h12 := rowT_len w0 w1
  have hsz : 17000 ≤ sizeLine := by decide
  have hal : ((Str.empty ++ Str.ofString (toString (i : Int))) ++ (" " : Str)).length ≤ sizeLine := Nat.le_trans h4 (by decide)
  have hal0 := hal
  rw [Str.length_append] at hal0
  refine ⟨_, rfl, .inr ⟨_, rfl, log_fine (by omega), _, rfl, by omega, _, rfl, hal, ?_⟩⟩
  refine ⟨_, rfl, rfl, _, rfl, lineOf i w, aheadOf i, rfl, rfl, ?_⟩
  rw [show Txt.startswith (lineOf i w) (aheadOf i) = true from W.KT.starts_app _ _]
  refine ⟨_, rfl, iteT ?_⟩
  refine ⟨_, rfl, _, rfl, aheadOf i, rfl, hal, _, rfl, lineOf i w, rfl, Nat.le_trans h16 (by decide), _, rfl, _, rfl, ?_, fun H' s' => ?_⟩
  · rw [show cutS (lineOf i w) (some ((aheadOf i).length : Int)) none = rowT w from cut_after _ _]
    exact Nat.le_trans h12 (by decide)
  · rw [show cutS (lineOf i w) (some ((aheadOf i).length : Int)) none = rowT w from cut_after _ _, rowIn_rowT w0 w1]
    exact q H' s'
theorem cal_line_in (T : Top K mg) : Cal Room P w K mg base 3 "line_in" [] (S_line_in K mg) := by
  obtain ⟨f, fd, D⟩ := T.d_line_in
  exact cal_mk D (fn_line_in T D)
/-! ### read_list -/
abbrev N_read_list : List Str := ["text", "lines", "words", "number", "line", "word"]
theorem sc_read_list : FnScope N_read_list ["text"] (defScope s_read_list) := ⟨rfl, rfl, rfl, by decide +kernel, rfl, by decide +kernel, by decide +kernel⟩
def S_read_list (K : PySem.W.Frag) (mg : Str → Option Value) : Sp := sp1 fun a H Q _ => ∃ ws : List Int, a = .str (listT ws) ∧ Words ws ∧ imgB (ws.map V.int) = true ∧ ∀ H' l, Same H H' → H l = none → H' l = some (.tup (ws.map V.int)) → Q (.ref l) H'
theorem fn_read_list (T : Top K mg) {f : Addr} {fd : FuncData} (D : DefAt K mg "read_list" s_read_list ["text"] f fd) : FnG Room P w K mg base 4 f fd ["text"] (S_read_list K mg) := by
  refine fn_of_body rl_room D.fn sc_read_list (fun vs H Q E h => by obtain ⟨_, rfl, _⟩ := h; rfl) (fun cdv A outer s H vs Q E hr h => ?_)
  obtain ⟨a, rfl, h⟩ := h
  have nd : N_read_list.Nodup := sc_read_list.nd
  obtain ⟨a_LEADING, m_LEADING, s_LEADING⟩ := T.c_LEADING
  refine ⟨_, pss_cons (ps_if (PW.pt (pw_or (pt_not (pt_val (pe_callB (call_isB) (by rfl) T.b_isinstance (by decide +kernel) (pa_cons (pv 0) (pa_cons (pe_bltn (v := .ty "str") rfl T.b_str boot_str rfl) (pa_nil)))))) (pw_or1 (pt_cmpR (op_ne) (pe_slice (sl_str) (pv 0) (po_some (pe_un un_neg (pe_int))) (po_none)) (pe_str) (nomark _))))) (pss_one (ps_never)) (pss_nil))
  (pss_cons (ps_set (i := 1) nd rfl (Or.inl rfl) (pe_bm PySem.F.plainAttrs_str PySem.F.slot_str_split PySem.F.type_str_split (mt_split) (pe_slice (sl_str) (pv 0) (po_none) (po_some (pe_un un_neg (pe_int)))) (pa_cons (pe_str) (pa_nil))))
  (pss_cons (ps_if (pt_cmpR (op_gt) (pe_callB (call_len_seq) (by rfl) T.b_len (PySem.boot_len) (pa_cons (pv 1) (pa_nil))) (pe_gi T.c_MOST_LENGTH) (nomark _)) (pss_one (ps_never)) (pss_nil))
  (pss_cons (ps_setLc (i := 2) (own := [("number", 3), ("line", 4)]) (g := gTup K 2 (gCons (gName 3) (gCons (gName 4) (gNil)))) (tt := tYes) rfl nd rfl rfl (sw_true rfl rfl rfl (by decide +kernel)) (pi_enum (by rfl) T.b_enumerate (pa_cons (pv 1) (pa_nil))) (blkOk_by (own := [("number", 3), ("line", 4)]) (N := N_read_list) (sc := defScope s_read_list) (by decide +kernel)) (fun _ _ _ _ _ => pg_tup rfl (pgs_cons (pg_name (i := 3) nd rfl (Or.inl rfl)) (pgs_cons (pg_name (i := 4) nd rfl (Or.inl rfl)) (pgs_nil)))) (fun _ _ _ _ _ => pts_nil) (fun _ _ _ _ _ => pe_c (cal_line_in T) hr passL (pa_cons (pv 3) (pa_cons (pv 4) (pa_nil)))))
  (pss_cons (ps_if (pt_cmpR (op_in_seq) (pe_non) (pv 2) (by rfl)) (pss_one (ps_never)) (pss_nil))
  (pss_cons (ps_for (passes_of rfl) rfl (pi_enum (by rfl) T.b_enumerate (pa_cons (pv 2) (pa_nil))) (pg_tup rfl (pgs_cons (pg_name (i := 3) nd rfl (Or.inl rfl)) (pgs_cons (pg_name (i := 5) nd rfl (Or.inl rfl)) (pgs_nil)))) (pss_one (ps_if (PW.pt (pw_and (pt_cmpR (op_in_seq) (pe_c (cal_kind_by T) (hr.mono (by decide)) pass (pa_cons (pv 5) (pa_nil))) (pe_glob (v := .ref a_LEADING) rfl m_LEADING rfl) (by rfl)) (pw_and1 (pt_cmpR (op_ge) (pe_c (cal_address_by T) (hr.mono (by decide)) pass (pa_cons (pv 5) (pa_nil))) (pe_callB (call_len_seq) (by rfl) T.b_len (PySem.boot_len) (pa_cons (pv 2) (pa_nil))) (nomark _))))) (pss_one (ps_never)) (pss_nil))))
  (pss_one (ps_ret (pe_callTy (call_tuple_of) (by rfl) T.b_tuple (by decide +kernel) (pa_cons (pv 2) (pa_nil)))))))))), ?_⟩
  obtain ⟨ws, rfl, hw, him, q⟩ := h
  obtain ⟨hl, hne⟩ := imgB_len him
  refine ⟨_, rfl, _, _, _, rfl, .str _, (by decide), _, rfl, iteF ?_⟩
  have hln := listT_len hl hw
  have hsz : 20000 ≤ sizeLine := by decide
  have c1 : cutS (listT ws) (some (-1)) none = "\n" := by
    rw [listT_eq hne]
    exact cut_tail _ _ rfl
  have c2 := list_split hne hw
  have c3 := cutS_length (listT ws) none (some (-1))
  refine ⟨_, rfl, _, rfl, _, rfl, _, rfl, by omega, rfl, _, rfl, ?_⟩
  rw [c1, decide_eq_true rfl]
  refine iteF ?_
  refine ⟨_, rfl, _, rfl, _, rfl, _, rfl, by omega, rfl, _, "\n", rfl, rfl, rfl, by omega, fun l hl1 => ?_⟩
  rw [c2]
  refine ⟨_, rfl, l, _, rfl, .inl (SqL.of upd_same), _, _, rfl, rfl, _, rfl, ?_⟩
  rw [List.length_map, rowsL_n, decide_eq_false (show ¬ (1000 : Int) < (ws.length : Nat) by omega)]
  refine iteF ?_
  refine ⟨_, rfl, l, _, rfl, SqL.of upd_same, fun D hD => ?_⟩
  refine lc_mapS walk_enum (ws.map V.int) (by simp [rowsL_n]) (by rw [List.length_map, rowsL_n]; omega) hD (fun H3 s3 => SqL.of (s3 _ _ upd_same)) ?_ ?_
  · rintro i v H2 H3 R hi s2 ⟨T2, v1, v2, rfl, nt, rfl, e1, e2⟩ hR
    cases e1
    replace e2 : ((rowsL ws).map V.str)[i]? = some v2 := e2
    rw [List.length_map, rowsL_n] at hi
    rw [List.getElem?_map, rowsL_at, List.getElem?_eq_getElem hi] at e2
    cases e2
    obtain ⟨w0, w1⟩ := hw _ (List.getElem_mem hi)
    refine ⟨T2, _, rfl, SqT.of upd_same, rfl, _, _, rfl, _, _, rfl, rfl, rfl, ?_⟩
    refine ⟨_, rfl, _, rfl, _, _, rfl, i, ws[i], rfl, rfl, by omega, w0, w1, fun H5 s5 => hR _ _ ?_ (Same.trans (same_upd nt) s5)⟩
    rw [List.getElem?_map, List.getElem?_eq_getElem hi]
    rfl
  · rintro H2 s2 hD2
    have sH2 : Same H H2 := Same.trans (same_upd hl1) s2
    have hDf : H D = none := Same.free (same_upd hl1) hD
    refine ⟨_, rfl, D, _, rfl, .inl (SqL.of hD2), rfl, flat_ints ws, _, rfl, ?_⟩
    rw [inV_non]
    refine iteF ?_
    refine ⟨_, rfl, D, _, rfl, SqL.of hD2, for_it walk_enum (fun i σ H' => (∃ n li wo, σ = [some (.str (listT ws)), some (.ref l), some (.ref D), n, li, wo]) ∧ Same H H' ∧ H' D = some (.lst (ws.map V.int)))
      ⟨⟨_, _, _, rfl⟩, sH2, hD2⟩ (fun i σ H' _ h => SqL.of h.2.2) ?_ ?_⟩
    · rintro i v σ H3 H3' hi ⟨⟨n, li, wo, rfl⟩, s3, hD3⟩ ⟨t, v1, v2, rfl, nt, rfl, e1, e2⟩
      cases e1
      replace e2 : (ws.map V.int)[i]? = some v2 := e2
      rw [List.length_map] at hi
      rw [List.getElem?_map, List.getElem?_eq_getElem hi] at e2
      cases e2
      have hle := imgB_lead him (List.getElem_mem hi)
      have hD4 : upd H3 t (.tup [V.int i, V.int ws[i]]) D = some (.lst (ws.map V.int)) := upd_old hD3 nt
      have s4 : Same H (upd H3 t (.tup [V.int i, V.int ws[i]])) := Same.trans s3 (same_upd nt)
      refine ⟨t, _, rfl, SqT.of upd_same, rfl, _, _, rfl, _, _, rfl, rfl, ?_⟩
      refine ⟨_, rfl, _, rfl, _, rfl, a_LEADING, _, rfl, .inr (s_LEADING.sq _), rfl, rfl, _, rfl, ?_⟩
      rw [inV_lead]
      cases e : leadB ws[i] with
      | false => exact iteF (iteF ⟨⟨_, _, _, rfl⟩, s4, hD4⟩)
      | true =>
        refine iteT ⟨_, rfl, _, rfl, _, rfl, _, rfl, D, _, rfl, .inl (SqL.of hD4), _, _, rfl, rfl, _, rfl, ?_⟩
        rw [List.length_map, decide_eq_false (show ¬ ((ws.length : Nat) : Int) ≤ ws[i] % 4096 by have := hle e; omega)]
        exact iteF ⟨⟨_, _, _, rfl⟩, s4, hD4⟩
    · rintro σ H3 ⟨⟨n, li, wo, rfl⟩, s3, hD3⟩
      exact ⟨_, rfl, D, _, rfl, .inl ⟨SqL.of hD3, fun r hr2 => q _ r (Same.trans s3 (same_upd hr2)) (Same.free s3 hr2) upd_same⟩⟩
def gk_read_list_0_text {α : Type} : List α → List α → List α
  | [], [w0] => [w0]
  | _, _ => []
theorem gk_read_list_0_text_rel {vs zs : List V} {us ws : List Value} (r : Vals vs us) (q : Vals zs ws) : Vals (gk_read_list_0_text vs zs) (gk_read_list_0_text us ws) := by
  cases r with
  | cons _ _ => exact .nil
  | nil =>
    cases q with
    | nil => exact .nil
    | cons w0 qx =>
      cases qx with
      | cons _ _ => exact .nil
      | nil =>
        exact .cons w0 (.nil)
theorem cal_read_list_k0_text (T : Top K mg) : CalK Room P w K mg base 4 "read_list" ["text"] gk_read_list_0_text (S_read_list K mg) := by
  obtain ⟨f, fd, D⟩ := T.d_read_list
  refine calK_mk (g := @gk_read_list_0_text) D (fn_read_list T D) (fun r q => gk_read_list_0_text_rel r q) (fun _ _ _ _ _ _ us ws hl => ?_)
  match us, ws, hl with
  | [], [_], _ => rfl
theorem cal_read_list (T : Top K mg) : Cal Room P w K mg base 4 "read_list" [] (S_read_list K mg) := by
  obtain ⟨f, fd, D⟩ := T.d_read_list
  exact cal_mk D (fn_read_list T D)
/-! ### law -/
theorem img_at (k lead : Int) (n : Nat) (hn1 : 1 ≤ n) (hn : n ≤ 1000) (hl : lead = 8 ∨ lead = 9) (hk : k = lead * 4096) : Words ((List.range n).map fun i : Nat => k + (i : Int)) ∧ imgB (((List.range n).map fun i : Nat => k + (i : Int)).map V.int) = true := by
  have hw : Words ((List.range n).map fun i : Nat => k + (i : Int)) := by
    intro w h
    obtain ⟨i, hi, rfl⟩ := List.mem_map.mp h
    have := List.mem_range.mp hi
    omega
  refine ⟨hw, imgB_of hw (by simpa using hn1) (by simpa using hn) fun w h _ => ?_⟩
  obtain ⟨i, hi, rfl⟩ := List.mem_map.mp h
  have := List.mem_range.mp hi
  rw [List.length_map, List.length_range]
  omega
/-- one thing of the law -/
def IsImg (H : Hp) (v : V) : Prop := ∃ t ws, v = .ref t ∧ H t = some (.tup (ws.map V.int)) ∧ Words ws ∧ imgB (ws.map V.int) = true
theorem IsImg.same {H H' : Hp} {v : V} (s : Same H H') (h : IsImg H v) : IsImg H' v := let ⟨t, ws, e, h, w, i⟩ := h; ⟨t, ws, e, s _ _ h, w, i⟩
abbrev N_law : List Str := ["_law_script", "_law_cell", "_law_pen", "_law_thing", "_law_at", "_law_due", "_law_turn", "_law_great"]
theorem sc_law : FnScope N_law ["_law_script"] (defScope s_law) := ⟨rfl, rfl, rfl, by decide +kernel, rfl, by decide +kernel, by decide +kernel⟩
def S_law (K : PySem.W.Frag) (mg : Str → Option Value) : Sp := S_of_law K
theorem fn_law (T : Top K mg) {f : Addr} {fd : FuncData} (D : DefAt K mg "law" s_law ["_law_script"] f fd) : FnG Rm P w K mg base 7 f fd ["_law_script"] (S_law K mg) := by
  refine fn_of_body rl_rm D.fn sc_law (fun vs H Q E h => by obtain ⟨_, rfl, _⟩ := h; rfl) (fun cdv A outer s H vs Q E hr h => ?_)
  obtain ⟨a, rfl, h⟩ := h
  have nd : N_law.Nodup := sc_law.nd
  refine ⟨_, pss_cons (ps_for (passes_of rfl) rfl (pi_list (pe_op (op_cat) (pe_lst (pa_cons (pe_c (cal__law_cell_at T) (hr.r.mono (by decide)) pass (pa_cons (pv 0) (pa_cons (pe_int) (pa_nil)))) (pa_nil))) (pe_slice (sl_list) (pv 0) (po_some (pe_int)) (po_some (pe_int))))) (pg_name (i := 1) nd rfl (Or.inl rfl)) (pss_cons (ps_set (i := 2) nd rfl (Or.inl rfl) (pe_c (cal__law_pen_of T) (hr.r.mono (by decide)) pass (pa_cons (pv 1) (pa_nil))))
  (pss_one (ps_for (passes_of rfl) rfl (pi_list (pe_lst (pa_cons (pe_c (cal__law_image T) (hr.r.mono (by decide)) pass (pa_cons (pv 2) (pa_cons (pe_int) (pa_nil)))) (pa_cons (pe_c (cal__law_image T) (hr.r.mono (by decide)) pass (pa_cons (pv 2) (pa_cons (pe_int) (pa_nil)))) (pa_cons (pe_tup (pa_cons (pe_int) (pa_nil))) (pa_cons (pe_callTy (call_tuple_of) (by rfl) T.b_tuple (by decide +kernel) (pa_cons (pe_lc (own := [("_law_at", 4)]) (g := gName 4) (tt := tYes) rfl nd (pi_range1 rfl T.b_range (pa_cons (pe_int) (pa_nil))) (blkOk_by (own := [("_law_at", 4)]) (N := N_law) (sc := defScope s_law) (by decide +kernel)) (fun _ _ _ _ _ => pg_name (i := 4) nd rfl (Or.inl rfl)) (fun _ _ _ _ _ => pts_nil) (fun _ _ _ _ _ => pe_op (op_add) (pe_op (op_mul) (pe_int) (pe_int)) (pv 4))) (pa_nil))) (pa_nil))))))) (pg_name (i := 3) nd rfl (Or.inl rfl)) (pss_cons (ps_set (i := 5) nd rfl (Or.inl rfl) (pe_c (cal__law_list T) (hr.r.mono (by decide)) pass (pa_cons (pv 3) (pa_nil))))
  (pss_cons (ps_for (passes_of rfl) rfl (pi_range1 rfl T.b_range (pa_cons (pe_int) (pa_nil))) (pg_name (i := 6) nd rfl (Or.inl rfl)) (pss_one (ps_if (PW.pt (pw_or (pt_cmpR (op_ne) (pe_c (cal_listed T) hr.r pass (pa_cons (pv 3) (pa_nil))) (pv 5) (nomark _)) (pw_or1 (pt_cmpR (op_ne) (pe_callB (G.call_reprF hr) (by rfl) T.b_repr (by decide +kernel) (pa_cons (pe_c (cal_read_list T) (hr.r.mono (by decide)) pass (pa_cons (pv 5) (pa_nil))) (pa_nil))) (pe_callB (G.call_reprF hr) (by rfl) T.b_repr (by decide +kernel) (pa_cons (pv 3) (pa_nil))) (nomark _))))) (pss_one (ps_ret (pe_bl))) (pss_nil))))
  (pss_one (ps_if (PW.pt (pw_or (pt_cmpR (op_ne) (pe_ck0 (cal_listed_k0_image T) hr.r pass (pk_cons (pv 3) (pk_nil))) (pv 5) (nomark _)) (pw_or1 (pt_cmpR (op_neD hr.r.units) (pe_ck0 (cal_read_list_k0_text T) (hr.r.mono (by decide)) pass (pk_cons (pv 5) (pk_nil))) (pv 3) (nomark _))))) (pss_one (ps_ret (pe_bl))) (pss_nil)))))))))
  (pss_cons (ps_set (i := 7) nd rfl (Or.inl rfl) (pe_callTy (call_tuple_of) (by rfl) T.b_tuple (by decide +kernel) (pa_cons (pe_lc (own := [("_law_at", 4)]) (g := gName 4) (tt := tYes) rfl nd (pi_range1 rfl T.b_range (pa_cons (pe_int) (pa_nil))) (blkOk_by (own := [("_law_at", 4)]) (N := N_law) (sc := defScope s_law) (by decide +kernel)) (fun _ _ _ _ _ => pg_name (i := 4) nd rfl (Or.inl rfl)) (fun _ _ _ _ _ => pts_nil) (fun _ _ _ _ _ => pe_op (op_add) (pe_op (op_mul) (pe_int) (pe_int)) (pv 4))) (pa_nil))))
  (pss_one (ps_ret (pe_and (pe_cmpR (op_eq) (pe_c (cal_listed T) hr.r pass (pa_cons (pv 7) (pa_nil))) (pe_c (cal__law_list T) (hr.r.mono (by decide)) pass (pa_cons (pv 7) (pa_nil))) (nomark _)) (pe_one (pe_cmpR (op_eqD hr.r.units) (pe_c (cal_read_list T) (hr.r.mono (by decide)) pass (pa_cons (pe_c (cal__law_list T) (hr.r.mono (by decide)) pass (pa_cons (pv 7) (pa_nil))) (pa_nil))) (pv 7) (nomark _))))))), ?_⟩
  obtain ⟨ns, s, rfl, hs, hl, _, q⟩ := h
  refine ⟨_, rfl, ⟨_, _, rfl, s, ns, 0, rfl, rfl, hs, Int.le_refl _, fun z => ?_⟩⟩
  refine ⟨by show 1 ≤ sizeLine; decide, fun l1 n1 => ⟨_, rfl, _, rfl, _, rfl, s, _, rfl, sqL_up hs n1, fun l2 n2 => ?_⟩⟩
  refine ⟨l1, l2, _, _, rfl, rfl, by walk_at "hp", upd_same, ?_, fun l n3 => ?_⟩
  · have e := cut_len (xs := ns.map V.int) (lo := some 1) (hi := some 6)
    rw [List.length_map] at e
    exact Nat.le_trans (Nat.add_le_add_left (Nat.le_trans e hl) 1) (by decide)
  have hints := xs_ints (ns := ns) (z := z) (lo := some 1) (hi := some 6)
  generalize hxs : [V.int z] ++ cutV (ns.map V.int) (some 1) (some 6) = xs at hints ⊢
  refine ⟨l, rfl, ⟨_, SqL.of upd_same⟩, for_list (K := K) (a := l) (xs := xs) (fun i σ H' => (∃ c p a b d e f, σ = [some (.ref s), c, p, a, b, d, e, f]) ∧ H' l = some (.lst xs))
    ⟨⟨_, _, _, _, _, _, _, rfl⟩, upd_same⟩ (fun i σ H' _ h => SqL.of h.2) ?_ ?_⟩
  · rintro i y σ H1 hi ⟨⟨c, p, a, b, d, e, f, rfl⟩, hl1⟩
    obtain ⟨cell, rfl⟩ := hints y (List.mem_of_getElem? hi)
    refine ⟨_, rfl, ⟨_, rfl, cell, rfl, fun pen x1 x2 x3 np => ?_⟩⟩
    have hpen : PenAt pen (upd H1 pen (.lst [.int x1, .int x2, .int x3])) := ⟨_, _, _, upd_same⟩
    have hl2 : upd H1 pen (.lst [.int x1, .int x2, .int x3]) l = some (.lst xs) := upd_old hl1 np
    have nlp : l ≠ pen := ne_of_none hl1 np
    generalize upd H1 pen (.lst [.int x1, .int x2, .int x3]) = H2 at hpen hl2 ⊢
    refine ⟨_, rfl, _, _, rfl, pen, 30, rfl, rfl, hpen, by decide, by decide, fun H3 t1 w1 b3 p3 f3 e3 hw1 hi1 => ?_⟩
    refine ⟨_, rfl, _, _, rfl, pen, 4, rfl, rfl, p3, by decide, by decide, fun H4 t2 w2 b4 p4 f4 e4 hw2 hi2 => ?_⟩
    have e4' : H4 t1 = some (.tup (w1.map V.int)) := b4 _ _ (hpen.ne f3) e3
    have hl4 : H4 l = some (.lst xs) := b4 _ _ nlp (b3 _ _ nlp hl2)
    refine ⟨by show 1 ≤ sizeLine; decide, fun t3 f5 => ?_⟩
    refine ⟨11, rfl, by decide, by decide, fun D hD => ?_⟩
    refine lc_mapS walk_range (((List.range 11).map fun i : Nat => (8 * 4096 : Int) + (i : Int)).map V.int) (by simp) (by decide) hD (fun _ _ => trivial) ?_ ?_
    · rintro i v H5 H6 R hi5 s5 ⟨e1, e2⟩ hR
      subst e1 e2
      refine ⟨rfl, _, _, rfl, rfl, .inr ⟨by decide, by decide⟩, _, rfl, _, _, rfl, rfl, hR _ _ ?_ (Same.refl _)⟩
      have hi6 : i < 11 := hi5
      rw [List.getElem?_map, List.getElem?_map, List.getElem?_range hi6]
      simp
    intro H6 s6 hD6
    refine ⟨D, _, rfl, .inl ⟨SqL.of hD6, fun t4 f6 => ?_⟩⟩
    refine ⟨by show 4 ≤ sizeLine; decide, fun lt flt => ?_⟩
    have sf : Same (upd H6 t4 (.tup (((List.range 11).map fun i : Nat => (8 * 4096 : Int) + (i : Int)).map V.int))) (upd (upd H6 t4 (.tup (((List.range 11).map fun i : Nat => (8 * 4096 : Int) + (i : Int)).map V.int))) lt (.lst [.ref t1, .ref t2, .ref t3, .ref t4])) := same_upd flt
    have s6f := Same.trans (same_upd (o := .tup (((List.range 11).map fun i : Nat => (8 * 4096 : Int) + (i : Int)).map V.int)) f6) sf
    have s5f := Same.trans s6 s6f
    have s4f := Same.trans (same_upd (o := .tup [V.int 0]) f5) s5f
    have hth : ∀ v ∈ [V.ref t1, V.ref t2, V.ref t3, V.ref t4], IsImg (upd (upd H6 t4 (.tup (((List.range 11).map fun i : Nat => (8 * 4096 : Int) + (i : Int)).map V.int))) lt (.lst [.ref t1, .ref t2, .ref t3, .ref t4])) v := by
      intro v hv
      simp only [List.mem_cons, List.not_mem_nil, or_false] at hv
      rcases hv with rfl | rfl | rfl | rfl
      · exact ⟨_, w1, rfl, s4f _ _ e4', hw1, hi1⟩
      · exact ⟨_, w2, rfl, s4f _ _ e4, hw2, hi2⟩
      · exact ⟨_, [0], rfl, s5f _ _ upd_same, fun w h => by rw [List.mem_singleton.mp h]; decide, by decide +kernel⟩
      · obtain ⟨a, b⟩ := img_at (8 * 4096) 8 11 (by decide) (by decide) (.inl rfl) rfl
        exact ⟨_, _, rfl, sf _ _ upd_same, a, b⟩
    have hlf : upd (upd H6 t4 (.tup (((List.range 11).map fun i : Nat => (8 * 4096 : Int) + (i : Int)).map V.int))) lt (.lst [.ref t1, .ref t2, .ref t3, .ref t4]) l = some (.lst xs) := s4f _ _ hl4
    have hltf : upd (upd H6 t4 (.tup (((List.range 11).map fun i : Nat => (8 * 4096 : Int) + (i : Int)).map V.int))) lt (.lst [.ref t1, .ref t2, .ref t3, .ref t4]) lt = some (.lst [.ref t1, .ref t2, .ref t3, .ref t4]) := upd_same
    generalize upd (upd H6 t4 (.tup (((List.range 11).map fun i : Nat => (8 * 4096 : Int) + (i : Int)).map V.int))) lt (.lst [.ref t1, .ref t2, .ref t3, .ref t4]) = Hf at hth hlf hltf ⊢
    generalize [V.ref t1, V.ref t2, V.ref t3, V.ref t4] = things at hth hltf ⊢
    refine ⟨lt, rfl, ⟨_, SqL.of hltf⟩, for_list (K := K) (a := lt) (xs := things) (fun i σ H' => (∃ th a du tu gr, σ = [some (.ref s), some (.int cell), some (.ref pen), th, a, du, tu, gr]) ∧ Same Hf H')
      ⟨⟨_, _, _, _, _, rfl⟩, Same.refl _⟩ (fun i σ H' _ h => SqL.of (h.2 _ _ hltf)) ?_ ?_⟩
    · rintro j v σ H7 hj ⟨⟨th, a, du, tu, gr, rfl⟩, s7⟩
      obtain ⟨t, ws, rfl, ht, hw, him⟩ := hth v (List.mem_of_getElem? hj)
      obtain ⟨hwl, hne⟩ := imgB_len him
      have fi := fineT_ints (words_fine hw) (by omega)
      refine ⟨_, rfl, _, rfl, t, ws, rfl, SqT.of (s7 _ _ ht), hw, hwl, hne, fun H8 s8 => ?_⟩
      refine ⟨2, rfl, by decide, by decide, for_range (n := 2) (fun i σ H' => (∃ tu, σ = [some (.ref s), some (.int cell), some (.ref pen), some (.ref t), a, some (.str (listT ws)), tu, gr]) ∧ Same Hf H')
        ⟨⟨_, rfl⟩, Same.trans s7 s8⟩ ?_ ?_⟩
      · rintro i σ H9 hi9 ⟨⟨tu, rfl⟩, s9⟩
        refine ⟨_, rfl, _, rfl, .inr ⟨t, _, rfl, SqT.of (s9 _ _ ht), things_ints ws, fun H10 s10 e => absurd (him.symm.trans e) (by simp), fun H10 ws' s10 _ e _ _ _ => ?_⟩⟩
        cases ints_inj e
        refine ⟨_, rfl, rfl, _, rfl, ?_⟩
        refine iteNS (by rfl) ?_
        refine ⟨_, rfl, _, rfl, ws, rfl, hw, him, fun H11 r s11 fr hr11 => ?_⟩
        have sf11 := Same.trans s9 (Same.trans s10 s11)
        refine ⟨_, _, rfl, dpT_ints (SqT.of hr11), fi, _, rfl, _, _, rfl, dpT_ints (SqT.of (sf11 _ _ ht)), fi, rfl, _, rfl, ?_⟩
        exact iteNS (by rfl) ⟨⟨_, rfl⟩, sf11⟩
      · rintro σ H9 ⟨⟨tu, rfl⟩, s9⟩
        refine ⟨_, rfl, _, rfl, .inr ⟨t, _, rfl, SqT.of (s9 _ _ ht), things_ints ws, fun H10 s10 e => absurd (him.symm.trans e) (by simp), fun H10 ws' s10 _ e _ _ _ => ?_⟩⟩
        cases ints_inj e
        refine ⟨_, rfl, rfl, _, rfl, ?_⟩
        refine iteNS (by rfl) ?_
        refine ⟨_, rfl, _, rfl, ws, rfl, hw, him, fun H11 r s11 fr hr11 => ?_⟩
        have sf11 := Same.trans s9 (Same.trans s10 s11)
        refine ⟨_, rfl, _, _, dpT_ints (SqT.of hr11), dpT_ints (SqT.of (sf11 _ _ ht)), shapedT_ints _, shapedT_ints _, _, rfl, ?_⟩
        rw [eqv_self (shapedT_ints _)]
        exact iteF ⟨⟨_, _, _, _, _, rfl⟩, sf11⟩
    · rintro σ H7 ⟨⟨th, a, du, tu, gr, rfl⟩, s7⟩
      exact ⟨⟨_, _, _, _, _, _, _, rfl⟩, s7 _ _ hlf⟩
  · rintro σ H1 ⟨⟨c, p, a, b, d, e, f, rfl⟩, hl1⟩
    obtain ⟨hw, him⟩ := img_at (9 * 4096) 9 1000 (by decide) (by decide) (.inr rfl) rfl
    obtain ⟨hwl, hne⟩ := imgB_len him
    refine ⟨1000, rfl, by decide, by decide, fun D hD => ?_⟩
    refine lc_mapS walk_range (((List.range 1000).map fun i : Nat => (9 * 4096 : Int) + (i : Int)).map V.int) (by simp) (by decide) hD (fun _ _ => trivial) ?_ ?_
    · rintro i v H5 H6 R hi5 s5 ⟨e1, e2⟩ hR
      subst e1 e2
      refine ⟨rfl, _, _, rfl, rfl, .inr ⟨by decide, by decide⟩, _, rfl, _, _, rfl, rfl, hR _ _ ?_ (Same.refl _)⟩
      have hi6 : i < 1000 := hi5
      rw [List.getElem?_map, List.getElem?_map, List.getElem?_range hi6]
      simp
    generalize ((List.range 1000).map fun i : Nat => (9 * 4096 : Int) + (i : Int)) = ws at hw him hwl hne ⊢
    intro H6 s6 hD6
    refine ⟨D, _, rfl, .inl ⟨SqL.of hD6, fun t f6 => ?_⟩⟩
    have ht : upd H6 t (.tup (ws.map V.int)) t = some (.tup (ws.map V.int)) := upd_same
    generalize upd H6 t (.tup (ws.map V.int)) = H7 at ht ⊢
    refine ⟨_, rfl, _, rfl, .inr ⟨t, _, rfl, SqT.of ht, things_ints ws, fun H10 s10 e => absurd (him.symm.trans e) (by simp), fun H10 ws' s10 _ e _ _ _ => ?_⟩⟩
    cases ints_inj e
    refine ⟨_, rfl, _, rfl, t, ws, rfl, SqT.of (s10 _ _ ht), hw, hwl, hne, fun H11 s11 => ?_⟩
    have s711 := Same.trans s10 s11
    refine ⟨rfl, _, rfl, ?_⟩
    rw [decide_eq_true rfl]
    refine iteT ⟨_, rfl, _, rfl, t, ws, rfl, SqT.of (s711 _ _ ht), hw, hwl, hne, fun H12 s12 => ?_⟩
    refine ⟨_, rfl, ws, rfl, hw, him, fun H13 r s13 fr hr13 => ?_⟩
    have s713 := Same.trans s711 (Same.trans s12 s13)
    refine ⟨_, rfl, _, _, dpT_ints (SqT.of hr13), dpT_ints (SqT.of (s713 _ _ ht)), shapedT_ints _, shapedT_ints _, ?_⟩
    rw [eqv_self (shapedT_ints _)]
    exact q _
end
theorem walk {l : PySem.W.OpenLaw} {q : Program} {loose : List Str} {XP : (Str → Option Value) → Heap → Prop} {YP : World → Heap → Prop} {d : DefRec} {K : Params → PySem.W.Frag} (hn : l.most = some 63) (hdf : d.params.defaults = [])
    (hY : ∀ (w : World) (h : Heap), YP w h → (K w.params).In h) (hd : d.name = "law")
    (F : ∀ (w : World) (mg : Str → Option Value) (h : Heap), (K w.params).In h → h.Ns mainGlobals mg → Top (K w.params) mg) :
    PySem.W.WalkO q loose XP YP l.row.toRowW d [] (fun f vs => PySem.call f vs) :=
  law_walk (x := "_law_script") (k := 7) hn hdf ⟨⟨rfl, by decide, by decide⟩, rfl⟩ hY fun w mg fa h KX g hm => by
    have T := F w mg h KX g
    obtain ⟨f, fd, D⟩ := T.d_law
    rw [hd, D.mg] at hm
    cases hm
    refine ⟨fd, fun s u => ?_, fun base _ _ => fn_law T D⟩
    obtain ⟨oc, od, kV, doc, pm, an, cdv, ct, osl, rfl, _⟩ := D.fn.ex
    exact .of_eq rfl
end G
open PySem PySem.W PyProof.Rows in
set_option maxRecDepth 100000 in
set_option maxHeartbeats 0 in
theorem PySem.Challenge.cw_seedmill_k92_images_listed_holds : PySem.Challenge.rw_seedmill_k92_images_listed.Holds := by
  w_on; o_law; k_head; (case hw => w_witness2)
  k_fill
  refine G.walk (l := PySem.Challenge.rw_seedmill_k92_images_listed) rfl rfl (fun w h Y => PySem.W.kIn_of Y) rfl ?F
  case F =>
    intro w mg h KX g
    refine' ⟨G.defAt_mk KX g ?a__law_pen_of ?l__law_pen_of ?c__law_pen_of ?k__law_pen_of (fun _ _ _ _ _ _ us hl => match us, hl with | [_], _ => rfl),
      G.defAt_mk KX g ?a__law_cell_at ?l__law_cell_at ?c__law_cell_at ?k__law_cell_at (fun _ _ _ _ _ _ us hl => match us, hl with | [_, _], _ => rfl),
      G.defAt_mk KX g ?a__law_next ?l__law_next ?c__law_next ?k__law_next (fun _ _ _ _ _ _ us hl => match us, hl with | [_], _ => rfl),
      G.defAt_mk KX g ?a__law_draw ?l__law_draw ?c__law_draw ?k__law_draw (fun _ _ _ _ _ _ us hl => match us, hl with | [_, _], _ => rfl),
      G.defAt_mk KX g ?a__law_image ?l__law_image ?c__law_image ?k__law_image (fun _ _ _ _ _ _ us hl => match us, hl with | [_, _], _ => rfl),
      G.defAt_mk KX g ?a__law_names ?l__law_names ?c__law_names ?k__law_names (fun _ _ _ _ _ _ us hl => match us, hl with | [], _ => rfl),
      G.defAt_mk KX g ?a__law_list ?l__law_list ?c__law_list ?k__law_list (fun _ _ _ _ _ _ us hl => match us, hl with | [_], _ => rfl),
      G.defAt_mk KX g ?a_kind_by ?l_kind_by ?c_kind_by ?k_kind_by (fun _ _ _ _ _ _ us hl => match us, hl with | [_], _ => rfl),
      G.defAt_mk KX g ?a_is_leading ?l_is_leading ?c_is_leading ?k_is_leading (fun _ _ _ _ _ _ us hl => match us, hl with | [_], _ => rfl),
      G.defAt_mk KX g ?a_address_by ?l_address_by ?c_address_by ?k_address_by (fun _ _ _ _ _ _ us hl => match us, hl with | [_], _ => rfl),
      G.defAt_mk KX g ?a_leads_within ?l_leads_within ?c_leads_within ?k_leads_within (fun _ _ _ _ _ _ us hl => match us, hl with | [_, _], _ => rfl),
      G.defAt_mk KX g ?a_is_whole ?l_is_whole ?c_is_whole ?k_is_whole (fun _ _ _ _ _ _ us hl => match us, hl with | [_], _ => rfl),
      G.defAt_mk KX g ?a_is_between ?l_is_between ?c_is_between ?k_is_between (fun _ _ _ _ _ _ us hl => match us, hl with | [_, _, _], _ => rfl),
      G.defAt_mk KX g ?a_is_word ?l_is_word ?c_is_word ?k_is_word (fun _ _ _ _ _ _ us hl => match us, hl with | [_], _ => rfl),
      G.defAt_mk KX g ?a_is_image ?l_is_image ?c_is_image ?k_is_image (fun _ _ _ _ _ _ us hl => match us, hl with | [_], _ => rfl),
      G.defAt_mk KX g ?a_need_image ?l_need_image ?c_need_image ?k_need_image (fun _ _ _ _ _ _ us hl => match us, hl with | [_], _ => rfl),
      G.defAt_mk KX g ?a_row_by ?l_row_by ?c_row_by ?k_row_by (fun _ _ _ _ _ _ us hl => match us, hl with | [_], _ => rfl),
      G.defAt_mk KX g ?a_listed ?l_listed ?c_listed ?k_listed (fun _ _ _ _ _ _ us hl => match us, hl with | [_], _ => rfl),
      G.defAt_mk KX g ?a_figures_in ?l_figures_in ?c_figures_in ?k_figures_in (fun _ _ _ _ _ _ us hl => match us, hl with | [_, _], _ => rfl),
      G.defAt_mk KX g ?a_word_by ?l_word_by ?c_word_by ?k_word_by (fun _ _ _ _ _ _ us hl => match us, hl with | [_, _], _ => rfl),
      G.defAt_mk KX g ?a_row_in ?l_row_in ?c_row_in ?k_row_in (fun _ _ _ _ _ _ us hl => match us, hl with | [_], _ => rfl),
      G.defAt_mk KX g ?a_line_in ?l_line_in ?c_line_in ?k_line_in (fun _ _ _ _ _ _ us hl => match us, hl with | [_, _], _ => rfl),
      G.defAt_mk KX g ?a_read_list ?l_read_list ?c_read_list ?k_read_list (fun _ _ _ _ _ _ us hl => match us, hl with | [_], _ => rfl),
      G.defAt_mk KX g ?a_law ?l_law ?c_law ?k_law (fun _ _ _ _ _ _ us hl => match us, hl with | [_], _ => rfl),
      PySem.W.mg_none_of KX g ?b_all,
      PySem.W.mg_none_of KX g ?b_bool,
      PySem.W.mg_none_of KX g ?b_enumerate,
      PySem.W.mg_none_of KX g ?b_int,
      PySem.W.mg_none_of KX g ?b_isinstance,
      PySem.W.mg_none_of KX g ?b_len,
      PySem.W.mg_none_of KX g ?b_max,
      PySem.W.mg_none_of KX g ?b_range,
      PySem.W.mg_none_of KX g ?b_repr,
      PySem.W.mg_none_of KX g ?b_str,
      PySem.W.mg_none_of KX g ?b_tuple,
      G.strAt_mk KX g ?c_FIGURES,
      ⟨_, PySem.W.mg_of KX g ?c_KINDS, G.sqTK_mk ?l_KINDS ?v_KINDS⟩,
      ⟨_, PySem.W.mg_of KX g ?c_LEADING, G.sqTK_mk ?l_LEADING ?v_LEADING⟩,
      G.intAt_mk KX g ?c_MOST_ADDRESS,
      G.intAt_mk KX g ?c_MOST_FIGURES,
      G.intAt_mk KX g ?c_MOST_LENGTH,
      G.intAt_mk KX g ?c_MOST_WORD,
      G.intAt_mk KX g ?c_SPAN,
      G.excAt_mk KX g ?a_NoImage ?x_NoImage ?kp_NoImage ?b_NoImage ?t_NoImage ?i_NoImage ?s_NoImage⟩
    (case a__law_pen_of => k_is)
    (case l__law_pen_of => k_is)
    (case c__law_pen_of => k_is)
    (case k__law_pen_of => k_is)
    (case a__law_cell_at => k_is)
    (case l__law_cell_at => k_is)
    (case c__law_cell_at => k_is)
    (case k__law_cell_at => k_is)
    (case a__law_next => k_is)
    (case l__law_next => k_is)
    (case c__law_next => k_is)
    (case k__law_next => k_is)
    (case a__law_draw => k_is)
    (case l__law_draw => k_is)
    (case c__law_draw => k_is)
    (case k__law_draw => k_is)
    (case a__law_image => k_is)
    (case l__law_image => k_is)
    (case c__law_image => k_is)
    (case k__law_image => k_is)
    (case a__law_names => k_is)
    (case l__law_names => k_is)
    (case c__law_names => k_is)
    (case k__law_names => k_is)
    (case a__law_list => k_is)
    (case l__law_list => k_is)
    (case c__law_list => k_is)
    (case k__law_list => k_is)
    (case a_kind_by => k_is)
    (case l_kind_by => k_is)
    (case c_kind_by => k_is)
    (case k_kind_by => k_is)
    (case a_is_leading => k_is)
    (case l_is_leading => k_is)
    (case c_is_leading => k_is)
    (case k_is_leading => k_is)
    (case a_address_by => k_is)
    (case l_address_by => k_is)
    (case c_address_by => k_is)
    (case k_address_by => k_is)
    (case a_leads_within => k_is)
    (case l_leads_within => k_is)
    (case c_leads_within => k_is)
    (case k_leads_within => k_is)
    (case a_is_whole => k_is)
    (case l_is_whole => k_is)
    (case c_is_whole => k_is)
    (case k_is_whole => k_is)
    (case a_is_between => k_is)
    (case l_is_between => k_is)
    (case c_is_between => k_is)
    (case k_is_between => k_is)
    (case a_is_word => k_is)
    (case l_is_word => k_is)
    (case c_is_word => k_is)
    (case k_is_word => k_is)
    (case a_is_image => k_is)
    (case l_is_image => k_is)
    (case c_is_image => k_is)
    (case k_is_image => k_is)
    (case a_need_image => k_is)
    (case l_need_image => k_is)
    (case c_need_image => k_is)
    (case k_need_image => k_is)
    (case a_row_by => k_is)
    (case l_row_by => k_is)
    (case c_row_by => k_is)
    (case k_row_by => k_is)
    (case a_listed => k_is)
    (case l_listed => k_is)
    (case c_listed => k_is)
    (case k_listed => k_is)
    (case a_figures_in => k_is)
    (case l_figures_in => k_is)
    (case c_figures_in => k_is)
    (case k_figures_in => k_is)
    (case a_word_by => k_is)
    (case l_word_by => k_is)
    (case c_word_by => k_is)
    (case k_word_by => k_is)
    (case a_row_in => k_is)
    (case l_row_in => k_is)
    (case c_row_in => k_is)
    (case k_row_in => k_is)
    (case a_line_in => k_is)
    (case l_line_in => k_is)
    (case c_line_in => k_is)
    (case k_line_in => k_is)
    (case a_read_list => k_is)
    (case l_read_list => k_is)
    (case c_read_list => k_is)
    (case k_read_list => k_is)
    (case a_law => k_is)
    (case l_law => k_is)
    (case c_law => k_is)
    (case k_law => k_is)
    (case b_all => k_is)
    (case b_bool => k_is)
    (case b_enumerate => k_is)
    (case b_int => k_is)
    (case b_isinstance => k_is)
    (case b_len => k_is)
    (case b_max => k_is)
    (case b_range => k_is)
    (case b_repr => k_is)
    (case b_str => k_is)
    (case b_tuple => k_is)
    (case c_FIGURES => k_is)
    (case c_KINDS => k_is)
    (case l_KINDS => k_is)
    (case v_KINDS => repeat (first | exact .nil | refine .cons ?_ ?_ | exact ⟨_, rfl⟩ | rfl))
    (case c_LEADING => k_is)
    (case l_LEADING => k_is)
    (case v_LEADING => repeat (first | exact .nil | refine .cons ?_ ?_ | exact ⟨_, rfl⟩ | rfl))
    (case c_MOST_ADDRESS => k_is)
    (case c_MOST_FIGURES => k_is)
    (case c_MOST_LENGTH => k_is)
    (case c_MOST_WORD => k_is)
    (case c_SPAN => k_is)
    (case a_NoImage => k_is)
    (case kp_NoImage => k_is)
    (case b_NoImage => k_is)
    (case t_NoImage => k_is)
    (case i_NoImage => k_is)
    (case s_NoImage => k_is)
    (case x_NoImage => k_exc)
#print axioms PySem.Challenge.cw_seedmill_k92_images_listed_holds
