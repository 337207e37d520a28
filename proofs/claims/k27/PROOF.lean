import PyProof.Rows.All
import Wide.All
import OpenK.AllK
import Wide.FinOn
import HandS.ForMost
import HandS.ForExc
import HandS.EndBits
import HandS.IsInst
import HandS.Defaults
import HandS.More
import HandS.FStr
import HandS.MakeKwOnly
import HandS.OwnEq
import HandS.Walk
import HandS.Strs
import HandS.SlotsOwn
import HandS.ExcIs
import HandS.ExcField
import HandS.HotCalls
import HandS.CallSlots
import HandS.Style
import HandS.TupMul
import HandS.TupAny
import PySem.Challenge.RW_seedmill_k27_images_loaded
set_option Elab.async false
set_option linter.all false
set_option maxRecDepth 100000
set_option maxHeartbeats 4000000
set_option synthInstance.maxSize 100000
set_option synthInstance.maxHeartbeats 0
namespace G
open PySem PySem.Spec PyProof.Rows L2

/-! ### shapes of promises: so many arguments -/
abbrev sp0 (φ : Hp → VK → XK → Prop) : Sp := fun vs H Q E => vs = [] ∧ φ H Q E
abbrev sp1 (φ : V → Hp → VK → XK → Prop) : Sp := fun vs H Q E => ∃ a, vs = [a] ∧ φ a H Q E
abbrev sp2 (φ : V → V → Hp → VK → XK → Prop) : Sp := fun vs H Q E => ∃ a b, vs = [a, b] ∧ φ a b H Q E
abbrev sp3 (φ : V → V → V → Hp → VK → XK → Prop) : Sp := fun vs H Q E => ∃ a b c, vs = [a, b, c] ∧ φ a b c H Q E
abbrev sp4 (φ : V → V → V → V → Hp → VK → XK → Prop) : Sp := fun vs H Q E => ∃ a b c d, vs = [a, b, c, d] ∧ φ a b c d H Q E

/-! ### room, and nothing that is being shown: repr needs it -/
structure Rm (k : Nat) (A : Around) : Prop where
  r : Room k A
  g : A.guards = some []
theorem Rm.mono {j k : Nat} {A : Around} (h : Rm k A) (l : j ≤ k) : Rm j A := ⟨h.r.mono l, h.g⟩
theorem Rm.deeper {k : Nat} {A : Around} (h : Rm (k + 1) A) (e : Env) : Rm k (A.deeper e) := ⟨h.r.deeper e, h.g⟩
theorem Rm.make {k : Nat} {A : Around} (h : Rm (k + 1) A) (C : Addr) (us : List Value) (kw : List (Str × Value)) : Rm k (A.under (.builtin "type.__call__" ⟨.ref C :: us, kw⟩)) :=
  ⟨h.r.make C us kw, by
    have e : (Code.builtin "type.__call__" ⟨.ref C :: us, kw⟩).guards = [] := by
      unfold Code.guards
      rw [if_neg (by simp [Code.isGuard, guardIds])]
    have e2 : (A.under (.builtin "type.__call__" ⟨.ref C :: us, kw⟩)).guards = pushGuards (Code.builtin "type.__call__" ⟨.ref C :: us, kw⟩).guards A.guards := rfl
    rw [e2, e]
    exact h.g⟩

/-- what a def may ask of where it runs: room; room and nothing that is being shown -/
structure RoomLike (ρ : Nat → Around → Prop) : Prop where
  room : ∀ {k A}, ρ k A → Room k A
  mono : ∀ {j k A}, ρ k A → j ≤ k → ρ j A
  deeper : ∀ {k A} (e : Env), ρ (k + 1) A → ρ k (A.deeper e)
  make : ∀ {k A} (C : Addr) (us : List Value) (kw : List (Str × Value)), ρ (k + 1) A → ρ k (A.under (.builtin "type.__call__" ⟨.ref C :: us, kw⟩))
theorem rl_rm : RoomLike Rm := ⟨fun h => h.r, fun h l => h.mono l, fun e h => h.deeper e, fun C us kw h => h.make C us kw⟩
theorem rl_room : RoomLike Room := ⟨fun h => h, fun h l => h.mono l, fun e h => h.deeper e, fun C us kw h => h.make C us kw⟩
/-- a def keeps its promise, wherever there is such room -/
structure FnG (ρ : Nat → Around → Prop) (P : Program) (w : World) (K : PySem.W.Frag) (mg : Str → Option Value) (base : Heap) (k : Nat) (f : Addr) (fd : FuncData) (ps : List Str) (sp : Sp) : Prop where
  len : ∀ vs H Q E, sp vs H Q E → vs.length = ps.length
  run : ∀ (A : Around) (fr : List Env) (s : Shared) (H : Hp) (ag : Args) (us : List Value) (vs : List V) (Q : VK) (E : XK), ρ k A → Env0 P w K mg base A fr s H →
    BindsTo s fd ag (ps.zip us) → Vals vs us → sp vs H Q E → codeAny (model P w) A (.call (.ref f) ag) (CR (L2.CX P w) fr P w H s Q E) s
section
variable {ρ : Nat → Around → Prop} {P : Program} {w : World} {K : PySem.W.Frag} {mg : Str → Option Value} {base : Heap} {k : Nat} {f : Addr} {fd : FuncData} {ps : List Str} {sp sp' : Sp}
theorem FnG.mono {j : Nat} (R : RoomLike ρ) (F : FnG ρ P w K mg base j f fd ps sp) (h : j ≤ k) : FnG ρ P w K mg base k f fd ps sp :=
  ⟨F.len, fun A fr s H ag us vs Q E hr => F.run A fr s H ag us vs Q E (R.mono hr h)⟩
theorem FnG.imp (F : FnG ρ P w K mg base k f fd ps sp) (h : ∀ vs H Q E, sp' vs H Q E → sp vs H Q E) : FnG ρ P w K mg base k f fd ps sp' :=
  ⟨fun vs H Q E q => F.len vs H Q E (h _ _ _ _ q), fun A fr s H ag us vs Q E hr e b v q => F.run A fr s H ag us vs Q E hr e b v (h _ _ _ _ q)⟩
theorem FnG.ok (F : FnG Room P w K mg base k f fd ps sp) : FnOk P w K mg base (L2.CX P w) k f fd ps sp := ⟨F.len, F.run⟩
/-- by its body -/
theorem FnG.body (R : RoomLike ρ) {x q : Str} {pr : Arguments} {bd : List Stmt} {sc : Scope} {dV kV doc pm cdv ct oc : Value} {an od : Option Addr} {sl : Array (Option Value)} {N : List Str}
    (lk : K.lookup f = some ⟨oc, od, .func (PySem.W.fnOf x q pr bd sc dV kV doc pm an cdv ct), sl⟩) (hc : PySem.W.codeIn K cdv q = true) (S : FnScope N ps sc)
    (len : ∀ vs H Q E, sp vs H Q E → vs.length = ps.length)
    (hb : ∀ (A : Around) (fr : List Env) (s : Shared) (H : Hp) (vs : List V) (Q : VK) (E : XK), ρ k (A.deeper (envOfC q sc s.heap.objs.size f cdv)) → sp vs H Q E →
      ∃ t, PSs (cxOf (L2.CX P w) P w K mg base N q sc f cdv A fr s H E) bd t ∧ t { nx := fun _ H' => Q .non H', rt := Q } (start N vs) H) :
    FnG ρ P w K mg base (k + 1) f (PySem.W.fnOf x q pr bd sc dV kV doc pm an cdv ct) ps sp := by
  refine ⟨len, ?_⟩
  intro A fr s H ag us vs Q E hr e0 bn rv hsp
  have el := len _ _ _ _ hsp
  have up : ∀ b o, base.get? b = some o → s.heap.get? b = some o := fun b o e => (e0.bs b o e).1
  have kin : K.In s.heap := e0.mod.kin.keeps up
  have kinds : ∀ y ∈ ps.zip us, sc.names.lookup y.1 = some .local ∨ (sc.names.lookup y.1 = some .cell ∧ ((cellsFrom (s.heap.objs.size + 1) sc.names []).lookup y.1).isSome = true) := by
    rintro ⟨n, v⟩ hy
    exact (S.par n (List.of_mem_zip hy).1).imp id fun z => ⟨z, PySem.W.cellsFrom_some _ _ _ (.inl z)⟩
  refine codeAny_call_function (R.room hr).depth (kin _ _ lk) rfl S.co S.gen rfl (PySem.W.codeRec_of kin hc) (bn _ _ _ _ ?_)
  refine wpAny_newFunctionEnv_cells S.kind kinds fun env he s1 ic => ?_
  subst he
  refine ⟨(e0.mod.nolimit.keeps up).keeps ic.toInCall.keep, codeAny_func ?_⟩
  obtain ⟨t, ht, hq⟩ := hb A fr s H vs Q E (R.deeper _ hr) hsp
  have I0 : Inv (cxOf (L2.CX P w) P w K mg base N q sc f cdv A fr s H E) [] (start N vs) H s1 := inv_start S (R.room hr).hd e0 el rv ic
  refine wpAny_mono (ht.run [] s1 _ H _ I0 hq) (fun fl s' hs => ?_) fun _ _ z => z
  cases fl with
  | ret u =>
    obtain ⟨v, _, H', J, r1, q1⟩ := hs
    exact ⟨v, H', J.os, J.bare, J.base, J.hok, r1, q1⟩
  | next =>
    obtain ⟨_, H', J, q1⟩ := hs
    exact ⟨V.non, H', J.os, J.bare, J.base, J.hok, rfl, q1⟩
  | brk => exact hs.elim fun _ z => z.elim fun _ y => y.2.elim
  | cont => exact hs.elim fun _ z => z.elim fun _ y => y.2.elim
end

/-! ### calls -/
section
variable {ρ : Nat → Around → Prop} {X : Cx} {k : Nat} {f C : Addr} {fd : FuncData} {ps ks : List Str} {sp : Sp} {dvs : List V} {ds : List Value} {E : XK}
/-- what a callee's end is to the caller -/
theorem end_call {pins : List (Addr × Obj)} {σ : L2.St} {H : Hp} {s s' : Shared} {Q : VK} {R : Result} (I : Inv X pins σ H s) (hx : Passes (L2.CX X.prog X.w) X E)
    (h : CR (L2.CX X.prog X.w) X.stack X.prog X.w H s Q E R s') : match R with
      | .ok (.ret u) => EP X pins σ Q u s'
      | .ok _ => False
      | .error e => X.xe e s' := by
  cases R with
  | error e => exact hx _ _ _ _ _ _ I h
  | ok fl =>
    cases fl with
    | ret u => exact I.after h
    | next => exact h
    | brk => exact h
    | cont => exact h
theorem run_g {pins : List (Addr × Obj)} {σ : L2.St} {H : Hp} {s : Shared} {Q : VK} {us : List Value} {vs : List V} (F : FnG ρ X.prog X.w X.K X.mg X.base k f fd ps sp) (hr : ρ k X.A)
    (hb : Binds X.K fd ps ds) (hd : Vals dvs ds) (hx : Passes (L2.CX X.prog X.w) X E) (I : Inv X pins σ H s) (rv : Vals vs us) (h : sp (vs ++ dvs) H Q E) :
    wpAny (model X.prog X.w) X.A (call (.ref f) us) (EP X pins σ Q) X.xe s := by
  have r2 := rv.append hd
  have l2 := r2.length.symm.trans (F.len _ _ _ _ h)
  refine wpAny_call (codeAny_mono (F.run X.A X.stack s H ⟨us, []⟩ _ _ Q E hr I.env0 (hb s us I.kIn l2) r2 h) ?_)
  intro R s' z
  have e := end_call I hx z
  cases R with
  | error _ => exact e
  | ok fl => cases fl <;> exact e
end

/-! ### a def of the top, as it stands; as it is called -/
structure DefAt (K : PySem.W.Frag) (mg : Str → Option Value) (x : Str) (st : Stmt) (ps : List Str) (f : Addr) (fd : FuncData) : Prop where
  fn : Fun K x x st f fd
  mg : mg x = some (.ref f)
  bd : Binds K fd ps []
abbrev TopDef (K : PySem.W.Frag) (mg : Str → Option Value) (x : Str) (st : Stmt) (ps : List Str) : Prop := ∃ f fd, DefAt K mg x st ps f fd
/-- a def as its callers know it; dvs: what is left out at the end -/
structure Cal (ρ : Nat → Around → Prop) (P : Program) (w : World) (K : PySem.W.Frag) (mg : Str → Option Value) (base : Heap) (k : Nat) (x : Str) (dvs : List V) (sp : Sp) : Prop where
  ex : ∃ f fd ps ds, FnG ρ P w K mg base k f fd ps sp ∧ mg x = some (.ref f) ∧ PySem.W.keepIn K (.ref f) = true ∧ Vals dvs ds ∧ Binds K fd ps ds
section
variable {ρ : Nat → Around → Prop} {P : Program} {w : World} {K : PySem.W.Frag} {mg : Str → Option Value} {base : Heap} {k : Nat} {x : Str} {ps : List Str} {dvs : List V} {sp sp' : Sp} {f : Addr} {fd : FuncData}
theorem Cal.mono {j : Nat} (R : RoomLike ρ) (C : Cal ρ P w K mg base j x dvs sp) (h : j ≤ k) : Cal ρ P w K mg base k x dvs sp := by
  obtain ⟨f, fd, ps, ds, F, z⟩ := C.ex
  exact ⟨f, fd, ps, ds, F.mono R h, z⟩
theorem Cal.imp (C : Cal ρ P w K mg base k x dvs sp) (h : ∀ vs H Q E, sp' vs H Q E → sp vs H Q E) : Cal ρ P w K mg base k x dvs sp' := by
  obtain ⟨f, fd, ps, ds, F, z⟩ := C.ex
  exact ⟨f, fd, ps, ds, F.imp h, z⟩
/-- a def's promise, by its body -/
theorem fn_of_body (R : RoomLike ρ) {q : Str} {st : Stmt} {N : List Str} (D : Fun K x q st f fd) (S : FnScope N ps (defScope st)) (len : ∀ vs H Q E, sp vs H Q E → vs.length = ps.length)
    (hbody : ∀ (cdv : Value) (A : Around) (outer : List Env) (s : Shared) (H : Hp) (vs : List V) (Q : VK) (E : XK), ρ k (A.deeper (envOfC q (defScope st) s.heap.objs.size f cdv)) → sp vs H Q E →
      ∃ t, PSs (cxOf (L2.CX P w) P w K mg base N q (defScope st) f cdv A outer s H E) (defBody st) t ∧ t { nx := fun _ H' => Q .non H', rt := Q } (start N vs) H) : FnG ρ P w K mg base (k + 1) f fd ps sp := by
  obtain ⟨oc, od, kV, doc, pm, an, cdv, ct, osl, rfl, lk, hcd⟩ := D.ex
  exact FnG.body R lk hcd S len (hbody cdv)
theorem cal_mk {st : Stmt} (D : DefAt K mg x st ps f fd) (F : FnG ρ P w K mg base k f fd ps sp) : Cal ρ P w K mg base k x [] sp := ⟨f, fd, ps, [], F, D.mg, D.fn.kp, .nil, D.bd⟩
/-- what is raised by a callee is the def's own -/
theorem pass {N : List Str} {q : Str} {sc : Scope} {f : Addr} {cd : Value} {A : Around} {outer : List Env} {s : Shared} {H : Hp} {E : XK} : Passes (L2.CX P w) (cxOf (L2.CX P w) P w K mg base N q sc f cd A outer s H E) E :=
  passes_call (takes_of rfl rfl rfl rfl) fun _ _ _ _ h => h
theorem defAt_mk {h : Heap} {st : Stmt} {f : Addr} {od an : Option Addr} {sl : Array (Option Value)} {oc kV dc pm cd ct : Value} (X : K.In h) (g : h.Ns mainGlobals mg)
    (a : PySem.W.nsIn K mainGlobals x = some (some (.ref f))) (l : K.lookup f = some ⟨oc, od, .func (PySem.W.fnOf x x (defArgs st) (defBody st) (defScope st) .none kV dc pm an cd ct), sl⟩)
    (c : PySem.W.codeIn K cd x = true) (kp : PySem.W.keepIn K (.ref f) = true)
    (b : ∀ (kV doc pm : Value) (an : Option Addr) (cdv ct : Value) (us : List Value), us.length = ps.length → bindArgs (PySem.W.fnOf x x (defArgs st) (defBody st) (defScope st) .none kV doc pm an cdv ct) ⟨us, []⟩ = pure (ps.zip us)) :
    TopDef K mg x st ps :=
  ⟨f, _, fun_mk (st := st) l c kp, PySem.W.mg_of X g a, (fun_mk (st := st) l c kp).binds b⟩
end
section
variable {ρ : Nat → Around → Prop} {X : Cx} {k : Nat} {x : Str} {dvs : List V} {sp : Sp} {E : XK} {e : Expr} {es : List Expr} {t : TA} {p pos : Pos}
/-- f(e, ..) -/
theorem pe_c (C : Cal ρ X.prog X.w X.K X.mg X.base k x dvs sp) (hr : ρ k X.A) (hx : Passes (L2.CX X.prog X.w) X E) (ha : PA X (e :: es) t) (hg : Gl X x := by rfl) (hdb : (x == ("__debug__" : Str)) = false := by decide)
    (hs : starEach (e :: es) X.env = (false, eval e X.env) :: starEach es X.env := by rfl) (hn : (backTo pos (starEach es X.env)).any (·.1) = false := by rfl) : PE X (.Call (.Name x p) (e :: es) [] pos) (tCall sp dvs E t) := by
  obtain ⟨f, fd, ps, ds, F, m, kp, hd, b⟩ := C.ex
  refine ⟨fun pins s σ H Q I h => wpAny_Call_Name_kw (ld_glob I hg m ?_ hdb)⟩
  exact PySem.W.callWith_K (h₀ := X.base) I.ok.mod.kin kp (thn (ha.run pos pins s σ H _ I h) fun us s1 ⟨vs, H1, I1, rv, q⟩ => ⟨I1.kIn, run_g F hr b hd hx I1 rv q⟩) hs hn
theorem pe_c0 (C : Cal ρ X.prog X.w X.K X.mg X.base k x dvs sp) (hr : ρ k X.A) (hx : Passes (L2.CX X.prog X.w) X E) (hg : Gl X x := by rfl) (hdb : (x == ("__debug__" : Str)) = false := by decide) :
    PE X (.Call (.Name x p) [] [] pos) (tCall sp dvs E tNil) := by
  obtain ⟨f, fd, ps, ds, F, m, kp, hd, b⟩ := C.ex
  exact ⟨fun pins s σ H Q I h => wpAny_Call_Name_kw (ld_glob I hg m (PySem.W.callWith_K0 I.kIn kp (run_g (us := []) F hr b hd hx I .nil h)) hdb)⟩
/-- a module's int -/
theorem pe_gi {i : Int} (h : ∃ t, X.mg x = some (.int i t)) (hg : Gl X x := by rfl) (hd : (x == ("__debug__" : Str)) = false := by decide) : PE X (.Name x pos) (tC (.int i)) := by
  obtain ⟨t, h⟩ := h
  exact pe_glob hg h ⟨t, rfl⟩ hd
theorem pe_gs {i : Str} (h : ∃ t, X.mg x = some (.str i t)) (hg : Gl X x := by rfl) (hd : (x == ("__debug__" : Str)) = false := by decide) : PE X (.Name x pos) (tC (.str i)) := by
  obtain ⟨t, h⟩ := h
  exact pe_glob hg h ⟨t, rfl⟩ hd
end

/-! ### the law's call -/
section
variable {P : Program} {w : World} {K : PySem.W.Frag} {mg mb : Str → Option Value} {k : Nat} {fa a : Addr} {fd : FuncData} {x : Str} {sp : Sp} {s₁ : Shared} {vs : List Value} {ns : List Int}
abbrev LawEnd (s₁ : Shared) (r : Result) (s' : Shared) : Prop := r = .ok (.ret (.bool true)) ∧ OldK s₁.heap s'.heap ∧ s'.os = s₁.os ∧ AllBare s'.gens
/-- from an abstract heap that tracks nothing but, perhaps, the script, locked -/
theorem law_in {H : Hp} (KX : K.In s₁.heap) (hns : s₁.heap.Ns mainGlobals mg) (hb : s₁.heap.Ns builtinsNs mb) (hbb : ∀ y : Str, y ≠ "__name__" → mb y = bootBuiltins y) (hlim : s₁.heap.NoLimit) (hg : s₁.gens = #[])
    (hr : Rm k callerA) (F : ∀ base : Heap, K.In base → base.Ns mainGlobals mg → FnG Rm P w K mg base k fa fd [x] sp) (bnd : ∀ (s : Shared) (u : Value), BindsTo s fd ⟨[u], []⟩ [(x, u)])
    (ok : HOk P w H s₁.heap) (only : ∀ b, H b = none ∨ ∃ o ys, H b = some (.frz o (.lst ys))) (nk : ∀ b o, K.lookup b = some o → H b = none) (nd : ∀ b o es ep, s₁.heap.get? b = some o → o.data = .dict es ep → H b = none)
    (hsp : sp [.ref a] H (fun v _ => v = .bl true) fun _ _ _ => False) :
    codeAny (model P w) callerA (.call (.ref fa) ⟨[.ref a], []⟩) (LawEnd s₁) s₁ := by
  have ns_in : ∀ {b : Addr} {m : Str → Option Value}, s₁.heap.Ns b m → (hidT s₁.heap H).Ns b m := by
    rintro b m ⟨o, es, ep, e, d, z⟩
    exact ⟨o, es, ep, hidT_get e (nd b o es ep e d), d, z⟩
  have K0 : K.In (hidT s₁.heap H) := fun b o e => hidT_get (KX b o e) (nk b o e)
  obtain ⟨mc, c1, c2⟩ := hlim
  have M0 : Mod K mg (hidT s₁.heap H) := ⟨K0, ns_in hns, ⟨mb, ns_in hb, hbb⟩, ⟨mc, ns_in c1, c2⟩⟩
  have e0 : Env0 P w K mg (hidT s₁.heap H) callerA [] s₁ H :=
    ⟨rfl, M0, fun _ _ e => of_hidT e, Nat.le_of_eq (hidT_size _ _), trivial, fun b hb => (List.not_mem_nil (show b ∈ ([] : List Addr) from hb)).elim, ok, .of_eq hg⟩
  have run := (F _ K0 (ns_in hns)).run callerA [] s₁ H ⟨[.ref a], []⟩ [.ref a] [.ref a] _ _ hr e0 (bnd s₁ (.ref a)) (.cons rfl .nil) hsp
  refine codeAny_mono run fun r s' z => ?_
  cases r with
  | error e =>
    obtain ⟨_, _, _, _, _, _, _, _, _, _, _, _, y⟩ := z
    exact y.elim
  | ok fl =>
    cases fl with
    | ret u =>
      obtain ⟨v, H', os, bare, un, ok', r1, q⟩ := z
      cases (show v = .bl true from q)
      cases (show u = Value.bool true from r1)
      refine ⟨rfl, OldK.of_keep fun b o e => ?_, os, bare⟩
      rcases only b with y | ⟨ob, ys, y⟩
      · exact un.keep b o e y (fun z => List.not_mem_nil (show b ∈ ([] : List Addr) from z)) List.not_mem_nil
      · have e2 := (ok' b _ (un.frzs b ob _ y)).1
        have e1 := (ok b _ y).1
        rw [e] at e1
        cases e1
        exact e2
    | next => exact z.elim
    | brk => exact z.elim
    | cont => exact z.elim
theorem law_run (KX : K.In s₁.heap) (hns : s₁.heap.Ns mainGlobals mg) (hb : s₁.heap.Ns builtinsNs mb) (hbb : ∀ y : Str, y ≠ "__name__" → mb y = bootBuiltins y) (hlim : s₁.heap.NoLimit) (hg : s₁.gens = #[])
    (ha : s₁.heap.get? a = some { cls := .type "list", data := .seq vs.toArray }) (hi : IntsAre vs ns) (hl : ns.length ≤ sizeLine) (hr : Rm k callerA)
    (F : ∀ base : Heap, K.In base → base.Ns mainGlobals mg → FnG Rm P w K mg base k fa fd [x] sp) (bnd : ∀ (s : Shared) (u : Value), BindsTo s fd ⟨[u], []⟩ [(x, u)])
    (hsp : ∀ H : Hp, SqL K H a (ns.map V.int) → sp [.ref a] H (fun v _ => v = .bl true) fun _ _ _ => False) :
    codeAny (model P w) callerA (.call (.ref fa) ⟨[.ref a], []⟩) (LawEnd s₁) s₁ := by
  have rv := vals_ints hi
  have ln := hi.length
  by_cases hk : ∃ o, K.lookup a = some o
  · -- the script is an object of the module's own
    obtain ⟨o, hk⟩ := hk
    have e := KX a o hk
    rw [ha] at e
    cases e
    refine law_in (H := fun _ => none) KX hns hb hbb hlim hg hr F bnd (fun _ _ z => nomatch z) (fun _ => .inl rfl) (fun _ _ _ => rfl) (fun _ _ _ _ _ _ => rfl) (hsp _ (.inr ⟨_, vs.toArray, _, hk, rfl, rfl, rfl, ?_, ?_⟩))
    · rw [List.size_toArray, ln]
      exact hl
    · simpa using rv
  · let H : Hp := fun b => if b = a then some (.frz { cls := .type "list", data := .seq vs.toArray } (.lst (ns.map V.int))) else none
    have at_a : H a = some (.frz { cls := .type "list", data := .seq vs.toArray } (.lst (ns.map V.int))) := if_pos rfl
    have off : ∀ b, b ≠ a → H b = none := fun b h => if_neg h
    refine law_in (H := H) KX hns hb hbb hlim hg hr F bnd (fun b u z => ?_) (fun b => ?_) (fun b o z => ?_) (fun b o es ep z d => ?_) (hsp H (.inl (.inr ⟨_, at_a⟩)))
    · by_cases e : b = a
      · subst e
        rw [at_a] at z
        cases z
        exact ⟨ha, by rw [List.length_map]; exact hl, vs, _, rv, ha⟩
      · rw [off b e] at z
        cases z
    · by_cases e : b = a
      · exact .inr ⟨_, _, by rw [e]; exact at_a⟩
      · exact .inl (off b e)
    · exact off b fun e => hk ⟨o, e ▸ z⟩
    · refine off b fun e => ?_
      rw [e, ha] at z
      cases z
      have d' : Data.seq vs.toArray _ = Data.dict es ep := d
      cases d'
end
/-- the promise of every law: whatever the script, True -/
abbrev S_of_law (K : PySem.W.Frag) : Sp := sp1 fun a H Q _ => ∃ (ns : List Int) (p : Addr), a = .ref p ∧ SqL K H p (ns.map V.int) ∧ ns.length ≤ 63 ∧ (∀ z ∈ ns, Builtin.Int.intBits z ≤ 1048576) ∧ ∀ H', Q (.bl true) H'
theorem law_walk {l : PySem.W.OpenLaw} {k : Nat} {q : Program} {loose : List Str} {XP : (Str → Option Value) → Heap → Prop} {YP : World → Heap → Prop} {d : DefRec} {K : Params → PySem.W.Frag} {x : Str}
    (hn : l.most = some 63) (hdf : d.params.defaults = []) (hr : Rm k callerA) (hY : ∀ (w : World) (h : Heap), YP w h → (K w.params).In h)
    (F : ∀ (w : World) (mg : Str → Option Value) (fa : Addr) (h : Heap), (K w.params).In h → h.Ns mainGlobals mg → mg d.name = some (.ref fa) →
      ∃ fd : FuncData, (∀ (s : Shared) (u : Value), BindsTo s fd ⟨[u], []⟩ [(x, u)]) ∧
        ∀ base : Heap, (K w.params).In base → base.Ns mainGlobals mg → FnG Rm l.prog w (K w.params) mg base k fa fd [x] (S_of_law (K w.params))) :
    PySem.W.WalkO q loose XP YP l.row.toRowW d [] (fun f vs => PySem.call f vs) := by
  refine Att.attach_callB hn hdf fun w s₀ s₁ mg mb fa o pm cd doc a vs ns G Y ho hd hcd hmg hobj hints hlen hbits hg => ?_
  have KX := hY w _ Y
  obtain ⟨fd, hb, hF⟩ := F w mg fa _ KX G.T.g hmg
  exact law_run KX G.T.g G.T.b G.T.builtins G.T.nolimit hg hobj hints (Nat.le_trans hlen (by decide)) hr hF hb fun H hS => ⟨_, rfl, ns, a, rfl, hS, hlen, hbits, fun _ => rfl⟩
end G
namespace G
open PySem PySem.Spec PyProof.Rows L2
/-- one step of a reading that asks for nothing but the next goal: looked up by the goal's head (instances: printed by gen.py beside the rules g_..) -/
class Lk (P : Prop) (R : outParam Prop) : Prop where
  go : R → P
/-- some steps -/
class LkN (P : Prop) (R : outParam Prop) : Prop where
  go : R → P
instance (priority := low) lkn_0 {P : Prop} : LkN P P := ⟨fun r => r⟩
instance lkn_1 {P P' R : Prop} [a : Lk P P'] [b : LkN P' R] : LkN P R := ⟨fun r => a.go (b.go r)⟩
theorem lk_go {P P' R : Prop} [a : Lk P P'] [b : LkN P' R] (r : R) : P := a.go (b.go r)
/-- what a slot holds -/
class AtS (σ : L2.St) (i : Nat) (v : outParam V) : Prop where
  h : σ[i]? = some (some v)
instance {v : V} {τ : L2.St} : AtS (some v :: τ) 0 v := ⟨rfl⟩
instance {x : Option V} {v : V} {τ : L2.St} {i : Nat} [a : AtS τ i v] : AtS (x :: τ) (i + 1) v := ⟨a.h⟩
class SetS (v : V) (i : Nat) (σ : L2.St) (σ' : outParam L2.St) : Prop where
  h : σ.set i (some v) = σ'
instance {v : V} {x : Option V} {τ : L2.St} : SetS v 0 (x :: τ) (some v :: τ) := ⟨rfl⟩
instance {v : V} {x : Option V} {τ τ' : L2.St} {i : Nat} [a : SetS v i τ τ'] : SetS v (i + 1) (x :: τ) (x :: τ') := ⟨by rw [List.set_cons_succ, a.h]⟩
end G
namespace G
open PySem PySem.Spec PyProof.Rows L2
/-! ### tuples of the module -/
/-- a tuple that the top has written -/
def SqTK (K : PySem.W.Frag) (a : Addr) (xs : List V) : Prop :=
  ∃ (o : Obj) (its : Array Value) (n : Nat), K.lookup a = some o ∧ o.cls = .type "tuple" ∧ o.data = .seq its n ∧ its.size ≤ sizeLine ∧ Vals xs its.toList ∧ o.dict = none
theorem SqTK.sq {K : PySem.W.Frag} {a : Addr} {xs : List V} (h : SqTK K a xs) (H : Hp) : SqT K H a xs := by
  obtain ⟨o, its, n, h1, h2, h3, h4, h5, _⟩ := h
  exact .inr ⟨o, its, n, h1, h2, h3, h4, h5⟩
theorem SqTK.ty {K : PySem.W.Frag} {a : Addr} {xs : List V} (h : SqTK K a xs) (H : Hp) : tyV K "tuple" (.ref a) H := by
  obtain ⟨o, its, n, h1, h2, h3, h4, h5, h6⟩ := h
  exact .inr (.inl ⟨rfl, o, h1, h2, h6⟩)
theorem sqTK_mk {K : PySem.W.Frag} {a : Addr} {xs : List V} {us : List Value} {n : Nat} {sl : Array (Option Value)} (l : K.lookup a = some ⟨.type "tuple", none, .seq us.toArray n, sl⟩) (v : Vals xs us) (h : xs.length ≤ 1000 := by decide) : SqTK K a xs :=
  ⟨_, us.toArray, n, l, rfl, rfl, by rw [List.size_toArray, ← v.length]; exact Nat.le_trans h (by decide), by simpa using v, rfl⟩

/-! ### exceptions of the program without an __init__ of their own -/
abbrev veTail : List Value := [.type "ValueError", .type "Exception", .type "BaseException", .type "object"]
structure ExcAt (K : PySem.W.Frag) (mg : Str → Option Value) (x : Str) : Prop where
  ex : ∃ C, mg x = some (.ref C) ∧ PySem.W.excIn K C veTail "ValueError.__new__" = true ∧ PySem.W.keepIn K (.ref C) = true ∧ PySem.W.subIn K (.ref C) (.type "BaseException") = some true ∧ PySem.W.typeIn K (.ref C) = some (.type "type") ∧
    PySem.W.isClsIn K C = true ∧ PySem.W.subIn K (.ref C) (.ref C) = some true
theorem excAt_mk {K : PySem.W.Frag} {mg : Str → Option Value} {h : Heap} {x : Str} {C : Addr} (X : K.In h) (g : h.Ns mainGlobals mg) (a : PySem.W.nsIn K mainGlobals x = some (some (.ref C)))
    (e : PySem.W.excIn K C veTail "ValueError.__new__" = true) (kp : PySem.W.keepIn K (.ref C) = true) (b : PySem.W.subIn K (.ref C) (.type "BaseException") = some true) (t : PySem.W.typeIn K (.ref C) = some (.type "type"))
    (i : PySem.W.isClsIn K C = true) (s : PySem.W.subIn K (.ref C) (.ref C) = some true) : ExcAt K mg x := ⟨C, PySem.W.mg_of X g a, e, kp, b, t, i, s⟩
/-- raise x('m') -/
theorem pmk_own {X : Cx} {x m : Str} {j : Nat} {p p2 pos : Pos} (k : ExcAt X.K X.mg x) (hg : Gl X x := by rfl) (hdb : (x == ("__debug__" : Str)) = false := by decide) :
    PMk X (.Call (.Name x p) [.Constant (.str m) j p2] [] pos) (fun _ H Q => ∀ C, X.mg x = some (.ref C) → Q (.ref C) none H) := by
  obtain ⟨C, mg, e, kp, b, t, _, _⟩ := k.ex
  intro pins s σ H Q I h
  exact L2.pmk_own PySem.F.excBase_ValueError e mg kp (raises_own b t) hg hdb pins s σ H Q I (h C mg)

/-! ### repr -/
/-- any data: none, bools, ints, texts, lists, tuples -/
def rRepr (K : PySem.W.Frag) : List V → Hp → VK → Prop := fun xs H Q => ∃ x d, xs = [x] ∧ Dp K H x d ∧ d.showable = true ∧ d.depth ≤ 60 ∧ d.shown.length ≤ sizeLine ∧ Q (.str d.shown) H
theorem noDict {K : PySem.W.Frag} {H : Hp} {a : Addr} {d : PyData} (h : Dp K H (.ref a) d) : (∃ ds, d = .list ds) ∨ ∃ ds, d = .tuple ds := by
  cases h with
  | lst _ _ => exact .inl ⟨_, rfl⟩
  | tup _ _ => exact .inr ⟨_, rfl⟩
mutual
theorem noDictD {K : PySem.W.Frag} {H : Hp} : ∀ {v : V} {d : PyData}, Dp K H v d → d.hasDict = false
  | _, _, .non => rfl
  | _, _, .bl _ => rfl
  | _, _, .int _ => rfl
  | _, _, .str _ => rfl
  | _, _, .lst _ h => by
    show PyData.hasDictAll _ = false
    exact noDictA h
  | _, _, .tup _ h => by
    show PyData.hasDictAll _ = false
    exact noDictA h
theorem noDictA {K : PySem.W.Frag} {H : Hp} : ∀ {vs : List V} {ds : List PyData}, DpAll K H vs ds → PyData.hasDictAll ds = false
  | _, _, .nil => rfl
  | _, _, .cons h t => by
    show (PyData.hasDict _ || PyData.hasDictAll _) = false
    rw [noDictD h, noDictA t]
    rfl
end
theorem call_repr {X : Cx} {k : Nat} (hr : Rm k X.A) : CallR X (.builtin "repr") (rRepr X.K) := by
  intro pins s σ H xs us Q I r h
  obtain ⟨x, d, rfl, hd, hs, hdp, hz, q⟩ := h
  obtain ⟨u, rfl, ru⟩ := vals1 r
  have un := hr.r.units
  cases hd with
  | non =>
    cases ru
    exact PySem.P.repr_of_none ⟨.str _, H, I.tok _, ⟨_, rfl⟩, by rw [PyData.shown_none] at q; exact q⟩
  | bl b =>
    cases ru
    exact PySem.P.repr_of_bool ⟨.str _, H, I.tok _, ⟨_, rfl⟩, by rw [PyData.shown_bool] at q; exact q⟩
  | int i =>
    obtain ⟨t, rfl⟩ := ru
    exact PySem.P.repr_of_int (by simpa [PyData.showable] using hs) ⟨.str _, H, I.tok _, ⟨_, rfl⟩, by rw [PyData.shown_int] at q; exact q⟩
  | str y =>
    obtain ⟨t, rfl⟩ := ru
    exact PySem.P.repr_of_str ⟨.str _, H, I.tok _, ⟨_, rfl⟩, by rw [PyData.shown_str] at q; exact q⟩ (by rw [PyData.shown_str] at hz; exact hz)
  | lst h1 h2 =>
    cases ru
    have hd2 : Dp X.K H (.ref _) (.list _) := .lst h1 h2
    obtain ⟨as, rd⟩ := Dp.reads I _ _ _ hd2 rfl
    refine repr_of_reads' rd hs (fun z => by rw [noDictD hd2] at z; cases z) hr.g (by omega) (fun _ _ e => e) (fun h' u tk keep => ?_) hz
    exact ⟨.str _, H, I.kept keep, ⟨_, rfl⟩, q⟩
  | tup h1 h2 =>
    cases ru
    have hd2 : Dp X.K H (.ref _) (.tuple _) := .tup h1 h2
    obtain ⟨as, rd⟩ := Dp.reads I _ _ _ hd2 rfl
    refine repr_of_reads' rd hs (fun z => by rw [noDictD hd2] at z; cases z) hr.g (by omega) (fun _ _ e => e) (fun h' u tk keep => ?_) hz
    exact ⟨.str _, H, I.kept keep, ⟨_, rfl⟩, q⟩

/-! ### defs with defaults -/
structure DefD (K : PySem.W.Frag) (mg : Str → Option Value) (x : Str) (st : Stmt) (dvs : List V) (f : Addr) (fd : FuncData) : Prop where
  fn : FunD K x x (defArgs st) (defBody st) (defScope st) dvs [] f fd
  mg : mg x = some (.ref f)
abbrev TopDefD (K : PySem.W.Frag) (mg : Str → Option Value) (x : Str) (st : Stmt) (dvs : List V) : Prop := ∃ f fd, DefD K mg x st dvs f fd
theorem defAtD_mk {K : PySem.W.Frag} {mg : Str → Option Value} {x : Str} {h : Heap} {st : Stmt} {d : V} {dvs : List V} {f T : Addr} {od an dd : Option Addr} {sl sl2 : Array (Option Value)} {oc kV dc pm cd ct : Value} {us : List Value} {n : Nat} (X : K.In h) (g : h.Ns mainGlobals mg)
    (a : PySem.W.nsIn K mainGlobals x = some (some (.ref f))) (l : K.lookup f = some ⟨oc, od, .func (PySem.W.fnOf x x (defArgs st) (defBody st) (defScope st) (.ref T) kV dc pm an cd ct), sl⟩)
    (c : PySem.W.codeIn K cd x = true) (kp : PySem.W.keepIn K (.ref f) = true) (t : K.lookup T = some ⟨.type "tuple", dd, .seq us.toArray n, sl2⟩) (v : Vals (d :: dvs) us) : TopDefD K mg x st (d :: dvs) :=
  ⟨f, _, ⟨⟨oc, od, _, kV, dc, pm, an, cd, ct, sl, rfl, l, c, .inr ⟨(fun z => nomatch z), T, _, us, n, rfl, t, rfl, v⟩, .inl rfl⟩, kp⟩, PySem.W.mg_of X g a⟩
section
variable {ρ : Nat → Around → Prop} {P : Program} {w : World} {K : PySem.W.Frag} {mg : Str → Option Value} {base : Heap} {k : Nat} {x : Str} {ps : List Str} {dvs : List V} {sp : Sp} {f : Addr} {fd : FuncData}
theorem fn_of_bodyD (R : RoomLike ρ) {q : Str} {st : Stmt} {N : List Str} (D : FunD K x q (defArgs st) (defBody st) (defScope st) dvs [] f fd) (S : FnScope N ps (defScope st)) (len : ∀ vs H Q E, sp vs H Q E → vs.length = ps.length)
    (hbody : ∀ (cdv : Value) (A : Around) (outer : List Env) (s : Shared) (H : Hp) (vs : List V) (Q : VK) (E : XK), ρ k (A.deeper (envOfC q (defScope st) s.heap.objs.size f cdv)) → sp vs H Q E →
      ∃ t, PSs (cxOf (L2.CX P w) P w K mg base N q (defScope st) f cdv A outer s H E) (defBody st) t ∧ t { nx := fun _ H' => Q .non H', rt := Q } (start N vs) H) : FnG ρ P w K mg base (k + 1) f fd ps sp := by
  obtain ⟨oc, od, dV, kV, doc, pm, an, cdv, ct, osl, rfl, lk, hcd, _, _⟩ := D.ex
  exact FnG.body R lk hcd S len (hbody cdv)
/-- called with n values, the last defaults filling up (those behind the first j) -/
theorem cal_mkD {st : Stmt} (D : DefD K mg x st dvs f fd) (F : FnG ρ P w K mg base k f fd ps sp) (n j : Nat) (hd : dvs ≠ []) (hn : n + (dvs.length - j) = ps.length)
    (h : ∀ (T : Addr) (kV doc pm : Value) (an : Option Addr) (cdv ct : Value) (us its : List Value), us.length = n → its.length = dvs.length →
      ∃ k, bindArgs (PySem.W.fnOf x x (defArgs st) (defBody st) (defScope st) (.ref T) kV doc pm an cdv ct) ⟨us, []⟩ = seqItems? (.ref T) >>= k ∧ k (some its.toArray) = pure (ps.zip (us ++ its.drop j))) :
    Cal ρ P w K mg base k x (dvs.drop j) sp := by
  obtain ⟨ds, r, b⟩ := D.fn.binds1 n j hd hn h
  exact ⟨f, fd, ps, ds, F, D.mg, D.fn.kp, r, b⟩
end

/-! ### calls by keywords alone -/
/-- a def called by its names: ks the names as they stand, g puts the values in the parameters' order -/
structure CalK (ρ : Nat → Around → Prop) (P : Program) (w : World) (K : PySem.W.Frag) (mg : Str → Option Value) (base : Heap) (k : Nat) (x : Str) (ks : List Str) (gV : List V → List V → List V) (sp : Sp) : Prop where
  ex : ∃ f fd ps, ∃ g : List Value → List Value → List Value, FnG ρ P w K mg base k f fd ps sp ∧ mg x = some (.ref f) ∧ PySem.W.keepIn K (.ref f) = true ∧ KBinds K fd ps ks g gV
section
variable {ρ : Nat → Around → Prop} {P : Program} {w : World} {K : PySem.W.Frag} {mg : Str → Option Value} {base : Heap} {k : Nat} {x : Str} {ps ks : List Str} {dvs : List V} {sp : Sp} {f : Addr} {fd : FuncData}
/-- all given, no defaults -/
theorem calK_mk {st : Stmt} {g : {α : Type} → List α → List α → List α} (D : DefAt K mg x st ps f fd) (F : FnG ρ P w K mg base k f fd ps sp)
    (hrel : ∀ {vs zs : List V} {us ws : List Value}, Vals vs us → Vals zs ws → Vals (g vs zs) (g us ws))
    (h : ∀ (kV doc pm : Value) (an : Option Addr) (cdv ct : Value) (us ws : List Value), (g us ws).length = ps.length → bindArgs (PySem.W.fnOf x x (defArgs st) (defBody st) (defScope st) .none kV doc pm an cdv ct) ⟨us, ks.zip ws⟩ = pure (ps.zip (g us ws))) :
    CalK ρ P w K mg base k x ks g sp := by
  obtain ⟨oc, od, kV, doc, pm, an, cdv, ct, osl, e, _⟩ := D.fn.ex
  refine ⟨f, fd, ps, g, F, D.mg, D.fn.kp, ⟨fun s us ws _ hl => ?_, hrel⟩⟩
  subst e
  exact .of_eq (h kV doc pm an cdv ct us ws hl)
/-- all given, defaults there, not used -/
theorem calK_mkD {st : Stmt} {g : {α : Type} → List α → List α → List α} (D : DefD K mg x st dvs f fd) (hd : dvs ≠ []) (F : FnG ρ P w K mg base k f fd ps sp)
    (hrel : ∀ {vs zs : List V} {us ws : List Value}, Vals vs us → Vals zs ws → Vals (g vs zs) (g us ws))
    (h : ∀ (T : Addr) (kV doc pm : Value) (an : Option Addr) (cdv ct : Value) (us its ws : List Value), (g us ws).length = ps.length → its.length = dvs.length →
      ∃ k, bindArgs (PySem.W.fnOf x x (defArgs st) (defBody st) (defScope st) (.ref T) kV doc pm an cdv ct) ⟨us, ks.zip ws⟩ = seqItems? (.ref T) >>= k ∧ k (some its.toArray) = pure (ps.zip (g us ws))) :
    CalK ρ P w K mg base k x ks g sp := by
  obtain ⟨oc, od, dV, kV, doc, pm, an, cdv, ct, osl, rfl, lk, hcd, hD, hK⟩ := D.fn.ex
  rcases hD with ⟨e, _⟩ | ⟨_, T, o, its, m, rfl, lT, oT, rT⟩
  · exact absurd e hd
  · refine ⟨f, _, ps, g, F, D.mg, D.fn.kp, ⟨fun s us ws X hl => ?_, hrel⟩⟩
    obtain ⟨k, e1, e2⟩ := h T kV doc pm an cdv ct us its ws hl rT.length.symm
    refine BindsTo.of_looks fun M => ?_
    rw [e1]
    exact looks_items X lT oT (.of_pure e2)
end
section
variable {ρ : Nat → Around → Prop} {X : Cx} {k : Nat} {x : Str} {ks : List Str} {gV : List V → List V → List V} {sp : Sp} {E : XK} {e : Expr} {es : List Expr} {kws : List Keyword} {t tk : TA} {p pos : Pos}
theorem run_gk {pins : List (Addr × Obj)} {σ : L2.St} {H : Hp} {s : Shared} {Q : VK} {f : Addr} {fd : FuncData} {ps : List Str} {us ws : List Value} {vs zs : List V} {g : List Value → List Value → List Value} (F : FnG ρ X.prog X.w X.K X.mg X.base k f fd ps sp) (hr : ρ k X.A)
    (hb : KBinds X.K fd ps ks g gV) (hx : Passes (L2.CX X.prog X.w) X E) (I : Inv X pins σ H s) (rv : Vals vs us) (rz : Vals zs ws) (h : sp (gV vs zs) H Q E) :
    wpAny (model X.prog X.w) X.A (call (.ref f) us (ks.zip ws)) (EP X pins σ Q) X.xe s := by
  have r2 := hb.rel rv rz
  have l2 := r2.length.symm.trans (F.len _ _ _ _ h)
  refine wpAny_call (codeAny_mono (F.run X.A X.stack s H ⟨us, ks.zip ws⟩ _ _ Q E hr I.env0 (hb.to s us ws I.kIn l2) r2 h) ?_)
  intro R s' z
  have e := end_call I hx z
  cases R with
  | error _ => exact e
  | ok fl => cases fl <;> exact e
theorem pe_ck0 (C : CalK ρ X.prog X.w X.K X.mg X.base k x ks gV sp) (hr : ρ k X.A) (hx : Passes (L2.CX X.prog X.w) X E) (hkw : PK X kws tk) (hg : Gl X x := by rfl) (hall : (backToKw pos (keywordEach kws X.env)).all (·.1.isSome) = true := by rfl)
    (hks : (backToKw pos (keywordEach kws X.env)).filterMap (·.1) = ks := by rfl) (hdb : (x == ("__debug__" : Str)) = false := by decide)
    (hpl : ((backTo pos (starEach [] X.env)).any (·.1) || (backToKw pos (keywordEach kws X.env)).any (·.1.isNone)) = false := by rfl) :
    PE X (.Call (.Name x p) [] kws pos) (fun σ H Q => tk σ H fun zs H1 => sp (gV [] zs) H1 Q E) := by
  obtain ⟨f, fd, ps, g, F, m, kp, b⟩ := C.ex
  refine ⟨fun pins s σ H Q I h => wpAny_Call_Name_kw (ld_glob I hg m ?_ hdb)⟩
  refine PySem.W.callWith_KW0 (h₀ := X.base) I.ok.mod.kin kp hall ?_ hpl
  refine thn (hkw.run pos pins s σ H _ I h) fun ws s1 ⟨zs, H1, I1, rz, q⟩ => ⟨I1.kIn, ?_⟩
  rw [hks]
  exact run_gk (us := []) F hr b hx I1 .nil rz q
end
end G
namespace G
open PySem PySem.Spec PyProof.Rows L2
/-! ### isinstance of things of the built-in kinds -/
inductive Thing (K : PySem.W.Frag) (H : Hp) : V → String → Prop where
  | non : Thing K H .non "NoneType"
  | bl (b : Bool) : Thing K H (.bl b) "bool"
  | int (i : Int) : Thing K H (.int i) "int"
  | str (x : Str) : Thing K H (.str x) "str"
  | lst {a : Addr} (h : TyX K H (.ref a) (.type "list")) : Thing K H (.ref a) "list"
  | tup {a : Addr} (h : TyX K H (.ref a) (.type "tuple")) : Thing K H (.ref a) "tuple"
  | dict {a : Addr} (h : TyX K H (.ref a) (.type "dict")) : Thing K H (.ref a) "dict"
theorem Thing.ty {K : PySem.W.Frag} {H : Hp} {v : V} {n : String} (h : Thing K H v n) : TyX K H v (.type n) := by
  cases h with
  | non => exact .base .non
  | bl b => exact .base (.bl b)
  | int i => exact .base (.int i)
  | str x => exact .base (.str x)
  | lst h => exact h
  | tup h => exact h
  | dict h => exact h
abbrev plainTys : List String := ["NoneType", "bool", "int", "str", "list", "tuple", "dict"]
theorem Thing.name {K : PySem.W.Frag} {H : Hp} {v : V} {n : String} (h : Thing K H v n) : n ∈ plainTys := by
  cases h <;> decide
def subB (n m : String) : Bool := n == m || (n == "bool" && m == "int")
theorem kit_plain : ∀ n ∈ plainTys, ∀ m ∈ plainTys, kitB n m = some (subB n m) := by decide +kernel
def rIsB (K : PySem.W.Frag) : List V → Hp → VK → Prop := fun xs H Q => ∃ x n m, xs = [x, .ty m] ∧ Thing K H x n ∧ m ∈ plainTys ∧ Q (.bl (subB n m)) H
theorem call_isB {X : Cx} : CallR X (.builtin "isinstance") (rIsB X.K) := by
  intro pins s σ H xs us Q I r h
  obtain ⟨x, n, m, rfl, th, hm, q⟩ := h
  exact call_isi pins s σ H _ us Q I r ⟨x, .ty m, .type n, .type m, _, rfl, .ty m, th.ty, kit_ty (kit_plain n th.name m hm), q⟩
def isIntV : V → Bool
  | .int _ => true
  | _ => false
theorem isInt_of {K : PySem.W.Frag} {H : Hp} {v : V} {n : String} (h : Thing K H v n) : (subB n "int" && !subB n "bool") = isIntV v := by
  cases h <;> rfl
/-- a whole number from one to another -/
def btwV (v : V) (lo hi : Int) : Bool := match v with
  | .int i => decide (lo ≤ i) && decide (i ≤ hi)
  | _ => false
theorem btwV_ex {v : V} {lo hi : Int} (h : btwV v lo hi = true) : ∃ i, v = .int i ∧ lo ≤ i ∧ i ≤ hi := by
  cases v with
  | int i =>
    simp only [btwV, Bool.and_eq_true, decide_eq_true_eq] at h
    exact ⟨i, rfl, h⟩
  | _ => cases h
theorem btwV_int {i lo hi : Int} (h : lo ≤ i ∧ i ≤ hi) : btwV (.int i) lo hi = true := by
  simp only [btwV, Bool.and_eq_true, decide_eq_true_eq]
  exact h
end G
namespace G
open PySem PySem.Spec PyProof.Rows L2
theorem atI_int {α : Type} {xs : List α} {k : Int} {v : α} (h0 : 0 ≤ k) (h : xs[k.toNat]? = some v) : atI xs k = some v := by
  have e := atI_nat h
  rwa [Int.toNat_of_nonneg h0] at e
theorem upd_old {H : Hp} {p r : Addr} {o x : HO} (h : H r = some x) (f : H p = none) : upd H p o r = some x := by
  rw [upd_ne (ne_of_none h f)]
  exact h
theorem upd_oth {H : Hp} {p r : Addr} {o x : HO} (h : H r = some x) (ne : r ≠ p) : upd H p o r = some x := by
  rw [upd_ne ne]
  exact h
theorem rep_ints (k : Nat) (i : Int) : (List.replicate k [V.int i]).flatten = (List.replicate k i).map V.int := by
  induction k with
  | zero => rfl
  | succ k ih => rw [List.replicate_succ, List.flatten_cons, ih, List.replicate_succ]; rfl
theorem sum_rep (k : Nat) (i : Int) : (List.replicate k i).sum = (k : Int) * i := by
  induction k with
  | zero => simp
  | succ k ih => rw [List.replicate_succ, List.sum_cons, ih, Int.natCast_add, Int.add_mul]; omega
end G
namespace G
open PySem PySem.Spec PyProof.Rows L2
theorem sqL_up {K : PySem.W.Frag} {H : Hp} {a p : Addr} {o : HO} {xs : List V} (h : SqL K H a xs) (f : H p = none) : SqL K (upd H p o) a xs :=
  Same.seq (fun _ _ e => upd_old e f) h
theorem atL {H : Hp} {a b : Addr} {xs ys : List V} (h : H a = some (.lst xs)) (h' : H b = some (.lst ys)) (d : xs ≠ ys) : a ≠ b :=
  ne_of h h' fun e => d (HO.lst.inj e)
end G
namespace G
open PySem PySem.Spec PyProof.Rows L2
/-! ### data whose repr is short enough, by a look at its leaves -/
mutual
def fine : PyData → Bool
  | .none | .bool _ => true
  | .int i => decide (i.natAbs < 10 ^ 12)
  | .str x => PyData.strOk x && x.cps.toList.all fun c => decide (c < 16 ^ 8)
  | .list xs | .tuple xs => fineAll xs
  | .dict _ => false
def fineAll : List PyData → Bool
  | [] => true
  | x :: xs => fine x && fineAll xs
end
theorem log_fine {i : Int} (h : i.natAbs < 10 ^ 12) : i.natAbs.log2 < 1920 := by
  by_cases e : i.natAbs = 0
  · rw [e]
    decide
  · have h2 : i.natAbs < 2 ^ 1920 := Nat.lt_trans h (Nat.lt_of_lt_of_le (by decide : 10 ^ 12 < 2 ^ 40) (Nat.pow_le_pow_right (by decide) (by decide)))
    exact (Nat.log2_lt e).mpr h2
mutual
theorem fine_ok : ∀ d : PyData, fine d = true → d.leavesShort 13 = true ∧ d.showable = true
  | .none, _ => ⟨rfl, rfl⟩
  | .bool _, _ => ⟨rfl, rfl⟩
  | .int i, h => by
    have h1 : i.natAbs < 10 ^ 12 := by simpa only [fine, decide_eq_true_eq] using h
    exact ⟨by simp only [PyData.leavesShort, decide_eq_true_eq]; exact PyData.shown_int_le h1, by simp only [PyData.showable, decide_eq_true_eq]; exact log_fine h1⟩
  | .str x, h => by
    simp only [fine, Bool.and_eq_true] at h
    exact ⟨by simpa only [PyData.leavesShort] using h.2, rfl⟩
  | .list xs, h => by
    have h1 := fineAll_ok xs (by simpa only [fine] using h)
    exact ⟨by simpa only [PyData.leavesShort] using h1.1, by simpa only [PyData.showable] using h1.2⟩
  | .tuple xs, h => by
    have h1 := fineAll_ok xs (by simpa only [fine] using h)
    exact ⟨by simpa only [PyData.leavesShort] using h1.1, by simpa only [PyData.showable] using h1.2⟩
  | .dict _, h => by simp [fine] at h
theorem fineAll_ok : ∀ xs : List PyData, fineAll xs = true → PyData.leavesShortAll 13 xs = true ∧ PyData.showableAll xs = true
  | [], _ => ⟨rfl, rfl⟩
  | x :: xs, h => by
    simp only [fineAll, Bool.and_eq_true] at h
    have h1 := fine_ok x h.1
    have h2 := fineAll_ok xs h.2
    exact ⟨by simp only [PyData.leavesShortAll, h1.1, h2.1, Bool.and_self], by simp only [PyData.showableAll, h1.2, h2.2, Bool.and_self]⟩
end
mutual
theorem fine_lay : ∀ d : PyData, fine d = true → d.canLay0 = true
  | .none, _ => rfl
  | .bool _, _ => rfl
  | .int _, _ => rfl
  | .str x, h => by
    simp only [fine, Bool.and_eq_true] at h
    simpa only [PyData.canLay0] using h.1
  | .list xs, h => by simpa only [PyData.canLay0] using fineAll_lay xs (by simpa only [fine] using h)
  | .tuple xs, h => by simpa only [PyData.canLay0] using fineAll_lay xs (by simpa only [fine] using h)
  | .dict _, h => by simp [fine] at h
theorem fineAll_lay : ∀ xs : List PyData, fineAll xs = true → PyData.canLayAll0 xs = true
  | [], _ => rfl
  | x :: xs, h => by
    simp only [fineAll, Bool.and_eq_true] at h
    simp only [PyData.canLayAll0, fine_lay x h.1, fineAll_lay xs h.2, Bool.and_self]
end
def rReprF (K : PySem.W.Frag) : List V → Hp → VK → Prop := fun xs H Q => ∃ x d, xs = [x] ∧ Dp K H x d ∧ (fine d = true ∧ d.depth ≤ 60 ∧ d.bulk ≤ 2 ^ 20) ∧ Q (.str d.shown) H
theorem call_reprF {X : Cx} {k : Nat} (hr : Rm k X.A) : CallR X (.builtin "repr") (rReprF X.K) := by
  intro pins s σ H xs us Q I r h
  obtain ⟨x, d, e, hd, ⟨h1, h2, h3⟩, q⟩ := h
  have h4 := fine_ok d h1
  exact call_repr hr pins s σ H xs us Q I r ⟨x, d, e, hd, h4.2, h2, PyData.shown_fits_bulk (B := 13) (by decide) (by decide) h4.1 h3, q⟩
theorem dpAll_ints {K : PySem.W.Frag} {H : Hp} : ∀ ns : List Int, DpAll K H (ns.map V.int) (ns.map PyData.int)
  | [] => .nil
  | n :: ns => .cons (.int n) (dpAll_ints ns)
theorem dp_ints {K : PySem.W.Frag} {H : Hp} {a : Addr} {ns : List Int} (h : H a = some (.lst (ns.map V.int))) : Dp K H (.ref a) (.list (ns.map .int)) := .lst (SqL.of h) (dpAll_ints ns)
theorem fineAll_ints : ∀ {ns : List Int}, (∀ n ∈ ns, n.natAbs < 10 ^ 12) → fineAll (ns.map .int) = true
  | [], _ => rfl
  | n :: ns, h => by
    simp only [List.map_cons, fineAll, fine, Bool.and_eq_true, decide_eq_true_eq]
    exact ⟨h n List.mem_cons_self, fineAll_ints fun m hm => h m (List.mem_cons_of_mem _ hm)⟩
theorem depthAll_ints : ∀ ns : List Int, PyData.depthAll (ns.map .int) = 0
  | [] => rfl
  | n :: ns => by simp only [List.map_cons, PyData.depthAll, PyData.depth, depthAll_ints ns, Nat.max_self]
theorem bulkAll_ints : ∀ ns : List Int, PyData.bulkAll (ns.map .int) = ns.length
  | [] => rfl
  | n :: ns => by
    have := bulkAll_ints ns
    simp only [List.map_cons, PyData.bulkAll, PyData.bulk, List.length_cons]
    omega
theorem fine_ints {ns : List Int} (h : ∀ n ∈ ns, n.natAbs < 10 ^ 12) (l : ns.length ≤ 500000) : fine (.list (ns.map .int)) = true ∧ (PyData.list (ns.map .int)).depth ≤ 60 ∧ (PyData.list (ns.map .int)).bulk ≤ 2 ^ 20 := by
  have h1 := bulkAll_ints ns
  refine ⟨by simpa only [fine] using fineAll_ints h, ?_, ?_⟩
  · simp only [PyData.depth, depthAll_ints]
    decide
  · simp only [PyData.bulk]
    have : (2 : Nat) ^ 20 = 1048576 := by decide
    omega
theorem canLay_ints : ∀ ns : List Int, PyData.canLayAll0 (ns.map .int) = true
  | [] => rfl
  | n :: ns => by simp only [List.map_cons, PyData.canLayAll0, PyData.canLay0, canLay_ints ns, Bool.and_self]
theorem shaped_of {d : PyData} (h : d.canLay0 = true) (k : d.depth ≤ 60) : SeqAt.shaped d = true := by
  unfold SeqAt.shaped
  rw [h, Bool.true_and]
  exact decide_eq_true (Nat.le_trans k (by decide))
theorem shaped_ints (ns : List Int) : SeqAt.shaped (.list (ns.map .int)) = true :=
  shaped_of (by simpa only [PyData.canLay0] using canLay_ints ns) (by simp only [PyData.depth, depthAll_ints]; decide)
theorem eqv_self {d : PyData} (h : SeqAt.shaped d = true) : PyData.eqv d d = true := SeqAt.eqv_refl d (SeqAt.canLay_of_shaped h)
end G
namespace G
open PySem PySem.Spec PyProof.Rows L2
theorem intAt_mk {K : PySem.W.Frag} {mg : Str → Option Value} {h : Heap} {x : Str} {i : Int} {t : Tok} (X : K.In h) (g : h.Ns mainGlobals mg) (a : PySem.W.nsIn K mainGlobals x = some (some (.int i t))) : ∃ t, mg x = some (.int i t) := ⟨t, PySem.W.mg_of X g a⟩
theorem strAt_mk {K : PySem.W.Frag} {mg : Str → Option Value} {h : Heap} {x : Str} {i : Str} {t : Tok} (X : K.In h) (g : h.Ns mainGlobals mg) (a : PySem.W.nsIn K mainGlobals x = some (some (.str i t))) : ∃ t, mg x = some (.str i t) := ⟨t, PySem.W.mg_of X g a⟩
end G
namespace G
open PySem PySem.Spec PyProof.Rows L2
/-- len, inside a comprehension: K stands alone -/
theorem call_lenK {X : Cx} {K : PySem.W.Frag} (hK : X.K = K) : CallR X (.builtin "len") (fun xs H Q => ∃ p ys, xs = [.ref p] ∧ (SqL K H p ys ∨ SqT K H p ys) ∧ Q (.int ys.length) H) := by
  subst hK
  exact call_len_seq
end G
namespace G
open PySem PySem.Spec PyProof.Rows L2
/-- an f-string, named, so that a comprehension's rule sees it -/
def tJoined (ts : List TE) : TE := fun σ H Q => tJs ts Str.empty σ H fun out H1 => Q (.str out) H1
theorem pe_joinT {X : Cx} {v1 v2 : Expr} {rest : List Expr} {ts : List TE} {pos : Pos} (h : PJ X (v1 :: v2 :: rest) ts) : PE X (.JoinedStr (v1 :: v2 :: rest) pos) (tJoined ts) := pe_joined h
end G
namespace G
open PySem PySem.Spec PyProof.Rows L2
theorem ix_listK {X : Cx} {K : PySem.W.Frag} (hK : X.K = K) : IxR X (rIxL K) := by
  subst hK
  exact ix_list
theorem ix_tupK {X : Cx} {K : PySem.W.Frag} (hK : X.K = K) : IxR X (rIxT K) := by
  subst hK
  exact ix_tup
end G
namespace G
open PySem PySem.Spec PyProof.Rows L2
/-! ### pens: a list of three ints that the draws change -/
def PenAt (p : Addr) (H : Hp) : Prop := ∃ x y z : Int, H p = some (.lst [.int x, .int y, .int z])
/-- all that stood stands, but p -/
def But (p : Addr) (H H' : Hp) : Prop := ∀ b o, b ≠ p → H b = some o → H' b = some o
theorem But.refl (p : Addr) (H : Hp) : But p H H := fun _ _ _ h => h
theorem But.trans {p : Addr} {H H' H'' : Hp} (a : But p H H') (b : But p H' H'') : But p H H'' := fun c o n h => b c o n (a c o n h)
theorem But.of {p : Addr} {H H' : Hp} (a : Same H H') : But p H H' := fun c o _ h => a c o h
theorem But.upd {p : Addr} {H : Hp} {o : HO} : But p H (upd H p o) := fun b u n h => by rw [upd_ne n]; exact h
theorem PenAt.at {p : Addr} {H : Hp} (h : PenAt p H) : ∃ o, H p = some o := let ⟨_, _, _, h⟩ := h; ⟨_, h⟩
theorem PenAt.same {p : Addr} {H H' : Hp} (h : PenAt p H) (s : Same H H') : PenAt p H' := let ⟨x, y, z, h⟩ := h; ⟨x, y, z, s _ _ h⟩
theorem PenAt.up {p q : Addr} {H : Hp} {o : HO} (h : PenAt p H) (f : H q = none) : PenAt p (upd H q o) := h.same fun _ _ e => upd_old e f
theorem PenAt.ne {p q : Addr} {H : Hp} (h : PenAt p H) (f : H q = none) : q ≠ p := fun e => by
  obtain ⟨_, _, _, h⟩ := h
  rw [← e, f] at h
  cases h
theorem PenAt.oth {p q : Addr} {H : Hp} {o : HO} (h : PenAt p H) (f : q ≠ p) : PenAt p (L2.upd H q o) := let ⟨x, y, z, h⟩ := h; ⟨x, y, z, by rw [upd_ne (Ne.symm f)]; exact h⟩
/-- a draw from a pen, as its reader wants it -/
theorem draw_in {Q : VK} {H : Hp} {p : Addr} {n : Int} (hp : PenAt p H) (h0 : 0 < n) (h1 : n < 1073741824) (k : ∀ H' r, But p H H' → PenAt p H' → 0 ≤ r → r < n → Q (.int r) H') :
    ∃ (p' : Addr) (x y z n' : Int), V.ref p = .ref p' ∧ V.int n = .int n' ∧ H p' = some (.lst [.int x, .int y, .int z]) ∧ 0 < n' ∧ n' < 1073741824 ∧ ∀ x' y' z' r : Int, 0 ≤ r → r < n' → Q (.int r) (upd H p' (.lst [.int x', .int y', .int z'])) := by
  obtain ⟨x, y, z, hp⟩ := hp
  exact ⟨p, x, y, z, n, rfl, rfl, hp, h0, h1, fun x' y' z' r r0 r1 => k _ _ But.upd ⟨_, _, _, upd_same⟩ r0 r1⟩
/-! ### a law's script -/
theorem xs_ints {ns : List Int} {z : Int} {lo hi : Option Int} : ∀ x ∈ [V.int z] ++ cutV (ns.map V.int) lo hi, ∃ i, x = V.int i := by
  intro x hx
  rcases List.mem_append.mp hx with e | e
  · exact ⟨z, List.mem_singleton.mp e⟩
  · obtain ⟨i, _, rfl⟩ := List.mem_map.mp (List.mem_of_mem_drop (List.mem_of_mem_take e))
    exact ⟨i, rfl⟩
theorem cut_len {xs : List V} {lo hi : Option Int} : (cutV xs lo hi).length ≤ xs.length := by
  unfold cutV
  rw [List.length_take, List.length_drop]
  omega
end G
namespace G
open PySem PySem.Spec PyProof.Rows L2
/-! ### a comprehension over anything that gives f 0, f 1, .. and leaves the heap: the list of what is made -/
theorem lc_map {J : It} {n : Nat} {Gs : Hp → Prop} {Y : Nat → Hp → V → Hp → Prop} (w : Walk J n Gs Y) {g : TG} {te : TE} {vs : List Nat} {σ : L2.St} {H1 : Hp} {D : Addr} {Qd : Hp → Prop} (ys : List V) (hn : ys.length = n) (hz : n ≤ sizeLine)
    (hG : ∀ zs, Gs (upd H1 D (.lst zs)))
    (hs : ∀ i x H H' (R : V → Hp → Prop), i < n → H = upd H1 D (.lst (ys.take i)) → Y i H x H' → (∀ y, ys[i]? = some y → R y H) → g x (wipe σ vs) H' fun σ2 H2 => wipe σ2 vs = wipe σ vs ∧ te σ2 H2 R) (hd : Qd (upd H1 D (.lst ys))) :
    ∃ W : Nat → Nat → Hp → Prop, (∃ m, W 0 m (upd H1 D (.lst []))) ∧ ∀ i m H, W i m H →
      (J.stop i H ∧ Qd H) ∨ (J.go i H ∧ ∃ Nx : Hp → Prop, (∀ H', Nx H' → ∃ m', m' < m ∧ W (i + 1) m' H') ∧ ∀ x H', J.yld i H x H' → g x (wipe σ vs) H' fun σ2 H2 => wipe σ2 vs = wipe σ vs ∧ tYes σ2 H2 fun b H3 =>
        if b = true then te σ2 H3 fun y H4 => ∃ acc, H4 D = some (.lst acc) ∧ acc.length < sizeLine ∧ Nx (upd H4 D (.lst (acc ++ [y]))) else Nx H3) := by
  refine lc_it w (fun i H => H = upd H1 D (.lst (ys.take i))) (by simp) (fun i H _ e => by rw [e]; exact hG _) (fun i x H H' hi e y => ?_) (fun H e => by rw [e, ← hn, List.take_length]; exact hd)
  simp only [tYes, ↓reduceIte]
  refine hs i x H H' _ hi e y fun v z4 => ?_
  have hl : (ys.take i).length = i := by rw [List.length_take]; omega
  refine ⟨_, by rw [e]; exact upd_same, by rw [hl]; omega, ?_⟩
  rw [e, upd_upd, List.take_succ, z4]
  rfl

/-! ### rows of words -/
def KN : List Str := ["end", "load", "store", "add", "less", "take", "from", "into", "go", "zero", "small", "read", "write", "other", "great", "still"]
/-- the row of a word -/
def rowT (i : Int) : Str := ((Str.empty ++ KN.getD (i / 4096).toNat Str.empty) ++ " ") ++ (toString (i % 4096) : String)
def isDig (c : Nat) : Bool := decide (48 ≤ c) && decide (c ≤ 57)
/-- the number that a text writes in so many figures at most -/
def figsIn (x : Str) (m : Int) : Option Int :=
  if decide (1 ≤ (x.length : Int)) && decide ((x.length : Int) ≤ m) && x.cps.toList.all isDig then
    (if x.cps.toList.head? = some 48 ∧ x ≠ "0" then none else some ((NumText.digitsVal x.cps.toList : Nat) : Int))
  else none
def optV : Option Int → V
  | none => .non
  | some i => .int i
def knIdx (x : Str) : Nat := KN.findIdx (· == x)
/-- the word that a row tells -/
def rowIn (x : Str) : Option Int :=
  match figsIn (Txt.partition x " ").2.2 4 with
  | none => none
  | some n => if (Txt.partition x " ").1 ∈ KN ∧ (Txt.partition x " ").2.1 ≠ "" ∧ n ≤ 4095 then some ((knIdx (Txt.partition x " ").1 : Int) * 4096 + n) else none
def wordInV : V → Option Int
  | .str x => rowIn x
  | _ => none
theorem digs_eq : ("0123456789" : Str).cps.toList = [48, 49, 50, 51, 52, 53, 54, 55, 56, 57] := by decide +kernel
theorem isDig_mem (c : Nat) : decide (c ∈ ("0123456789" : Str).cps.toList) = isDig c := by
  rw [digs_eq]
  unfold isDig
  by_cases h : 48 ≤ c ∧ c ≤ 57
  · rw [decide_eq_true h.1, decide_eq_true h.2]
    have : c = 48 ∨ c = 49 ∨ c = 50 ∨ c = 51 ∨ c = 52 ∨ c = 53 ∨ c = 54 ∨ c = 55 ∨ c = 56 ∨ c = 57 := by omega
    rcases this with rfl | rfl | rfl | rfl | rfl | rfl | rfl | rfl | rfl | rfl <;> rfl
  · have e : (decide (48 ≤ c) && decide (c ≤ 57)) = false := by
      rw [← Bool.not_eq_true]
      intro z
      simp only [Bool.and_eq_true, decide_eq_true_eq] at z
      exact h z
    rw [e]
    refine decide_eq_false fun hm => ?_
    simp only [List.mem_cons, List.not_mem_nil, or_false] at hm
    omega
theorem eqV_str (x y : Str) : eqV (.str x) (.str y) = (x == y) := rfl
theorem inV_strs (x : Str) : ∀ ys : List Str, inV (.str x) (ys.map V.str) = decide (x ∈ ys)
  | [] => by simp [inV]
  | y :: ys => by
    have ih := inV_strs x ys
    unfold inV at ih ⊢
    rw [List.map_cons, List.any_cons, ih, eqV_str]
    by_cases e : y = x
    · simp [e]
    · have e2 : ¬ x = y := fun z => e z.symm
      simp [e, e2]
theorem flat_strs : ∀ ys : List Str, (ys.map V.str).all flatV = true
  | [] => rfl
  | _ :: ys => by
    rw [List.map_cons, List.all_cons, flat_strs ys]
    rfl
theorem kn_nodup : KN.Nodup := by decide +kernel
theorem knIdx_get {x : Str} (h : x ∈ KN) : KN[knIdx x]? = some x := by
  have h1 : knIdx x < KN.length := List.findIdx_lt_length_of_exists ⟨x, h, by simp⟩
  have h2 := List.findIdx_getElem (w := h1)
  rw [List.getElem?_eq_getElem h1]
  exact congrArg some (by unfold knIdx; simpa using h2)
theorem knIdx_first {x : Str} {m : Nat} (h : m < knIdx x) : KN[m]? ≠ some x := by
  intro e
  have h2 := List.not_of_lt_findIdx h
  have h3 := (List.getElem?_eq_some_iff.mp e).2
  simp [h3] at h2
end G
namespace G
open PySem PySem.Spec PyProof.Rows L2 TL
theorem tl_blank : tl (" " : Str) = 32 :: [] := by decide +kernel
theorem part_cases (x : Str) : (32 ∉ tl x ∧ Txt.partition x " " = (x, Str.empty, Str.empty)) ∨ ∃ a b : Str, x = a ++ " " ++ b ∧ 32 ∉ tl a ∧ Txt.partition x " " = (a, (" " : Str), b) := by
  by_cases h : 32 ∈ tl x
  · obtain ⟨l, r, e, hl⟩ := List.eq_append_cons_of_mem h
    refine .inr ⟨⟨l.toArray⟩, ⟨r.toArray⟩, ?_, ?_, ?_⟩
    · refine ext_tl ?_
      rw [tl_append, tl_append, tl_blank, e]
      show l ++ 32 :: r = (l ++ [32]) ++ r
      simp
    · exact hl
    · have e2 : x = (⟨l.toArray⟩ : Str) ++ " " ++ (⟨r.toArray⟩ : Str) := by
        refine ext_tl ?_
        rw [tl_append, tl_append, tl_blank, e]
        show l ++ 32 :: r = (l ++ [32]) ++ r
        simp
      rw [e2]
      exact partition_app tl_blank hl
  · exact .inl ⟨h, partition_none tl_blank h⟩
theorem part_len (x : Str) : (Txt.partition x " ").2.2.length ≤ x.length := by
  rcases part_cases x with ⟨_, e⟩ | ⟨a, b, ex, _, e⟩
  · rw [e]
    exact Nat.zero_le _
  · rw [e, ex, Str.length_append, Str.length_append]
    show b.length ≤ _
    omega
theorem numL_head : ∀ (k n : Nat), n ≤ k → 0 < n → ∃ c r, numL n = c :: r ∧ 49 ≤ c
  | 0, n, h, h0 => by omega
  | k + 1, n, h, h0 => by
    by_cases h10 : n < 10
    · exact ⟨_, _, numL_lt h10, by omega⟩
    · obtain ⟨c, r, e, hc⟩ := numL_head k (n / 10) (by omega) (by omega)
      exact ⟨c, r ++ [48 + n % 10], by rw [numL_step (by omega), e]; rfl, hc⟩
theorem isDig_of {l : List Nat} (h : NumText.AllDigits l) : l.all isDig = true := by
  refine List.all_eq_true.mpr fun c hc => ?_
  have h2 := h c hc
  simp only [isDig, Bool.and_eq_true, decide_eq_true_eq]
  exact h2
theorem tl_zero : tl ("0" : Str) = [48] := by decide +kernel
/-- figures as str writes them -/
theorem figs_num {n m : Nat} (hl : (numL n).length ≤ m) : figsIn (Str.ofString (toString (n : Int))) (m : Int) = some (n : Int) := by
  have e := tl_num n
  have hlen : (Str.ofString (toString (n : Int))).length = (numL n).length := by rw [len_tl, e]
  have hpos : 1 ≤ (numL n).length := List.length_pos_iff.mpr (numL_ne n)
  have ec : (Str.ofString (toString (n : Int))).cps.toList = numL n := e
  unfold figsIn
  rw [hlen, ec, isDig_of (numL_digits n), decide_eq_true (show (1 : Int) ≤ ((numL n).length : Nat) by omega), decide_eq_true (show (((numL n).length : Nat) : Int) ≤ (m : Nat) by omega)]
  simp only [Bool.and_self, ↓reduceIte]
  rw [if_neg, numL_val]
  rintro ⟨h1, h2⟩
  by_cases h0 : n = 0
  · subst h0
    exact h2 (by decide +kernel)
  · obtain ⟨c, r, e2, hc⟩ := numL_head n n (Nat.le_refl _) (by omega)
    rw [e2] at h1
    have := Option.some.inj h1
    omega
/-- the row of a word, read -/
theorem kn_free : ∀ k < 16, 32 ∉ tl (KN.getD k Str.empty) := by decide +kernel
theorem kn_idx : ∀ k < 16, KN.getD k Str.empty ∈ KN ∧ knIdx (KN.getD k Str.empty) = k := by decide +kernel
theorem empty_app (x : Str) : Str.empty ++ x = x := by
  refine ext_tl ?_
  rw [tl_append]
  rfl
theorem rowIn_parts {k n : Nat} (hk : k < 16) (hn : n ≤ 4095) : rowIn (KN.getD k Str.empty ++ " " ++ Str.ofString (toString (n : Int))) = some ((k : Int) * 4096 + n) := by
  unfold rowIn
  rw [partition_app tl_blank (kn_free k hk)]
  have h4 : (numL n).length ≤ 4 := numL_len (by decide) (by omega)
  have h5 := figs_num (m := 4) h4
  simp only
  rw [show ((4 : Nat) : Int) = 4 from rfl] at h5
  rw [h5]
  simp only
  rw [if_pos ⟨(kn_idx k hk).1, by decide +kernel, by omega⟩, (kn_idx k hk).2]
theorem rowT_eq {i : Int} (h0 : 0 ≤ i) (h1 : i ≤ 65535) : rowT i = KN.getD (i / 4096).toNat Str.empty ++ " " ++ Str.ofString (toString (((i % 4096).toNat : Nat) : Int)) := by
  unfold rowT
  rw [empty_app, Int.toNat_of_nonneg (Int.emod_nonneg _ (by decide))]
theorem rowIn_rowT {i : Int} (h0 : 0 ≤ i) (h1 : i ≤ 65535) : rowIn (rowT i) = some i := by
  rw [rowT_eq h0 h1, rowIn_parts (by omega) (by omega)]
  congr 1
  omega
theorem rowT_len {i : Int} (h0 : 0 ≤ i) (h1 : i ≤ 65535) : (rowT i).length ≤ 12 := by
  rw [rowT_eq h0 h1, Str.length_append, Str.length_append]
  have e2 : ∀ n : Nat, n < 16 → (KN.getD n Str.empty).length ≤ 5 := by decide +kernel
  have e3 := e2 (i / 4096).toNat (by omega)
  have e4 : (Str.ofString (toString (((i % 4096).toNat : Nat) : Int))).length ≤ 4 := by
    rw [len_tl, tl_num]
    exact numL_len (by decide) (by omega)
  have l1 : (" " : Str).length = 1 := rfl
  omega
theorem sum_le {l : List Nat} {k : Nat} (h : ∀ x ∈ l, x ≤ k) : l.sum ≤ l.length * k := by
  induction l with
  | nil => simp
  | cons a l ih =>
    have h1 := h a List.mem_cons_self
    have h2 := ih fun x hx => h x (List.mem_cons_of_mem _ hx)
    rw [List.sum_cons, List.length_cons, Nat.succ_mul]
    omega
theorem sum_lens {xs : List Str} {k : Nat} (h : ∀ x ∈ xs, x.length ≤ k) : (xs.map (·.length)).sum ≤ xs.length * k := by
  have := sum_le (l := xs.map (·.length)) (k := k) fun x hx => by
    obtain ⟨y, hy, rfl⟩ := List.mem_map.mp hx
    exact h y hy
  rwa [List.length_map] at this
theorem join_len (sep : Str) (xs : List Str) : (Txt.join sep xs).length ≤ (xs.map (·.length)).sum + xs.length * sep.length := by
  rw [join_eq]
  exact StrLaws.join_length_le sep xs
theorem mem_joinL {S : List Nat} {c : Nat} : ∀ {ps : List (List Nat)}, c ∈ TL.joinL S ps → c ∈ S ∨ ∃ p ∈ ps, c ∈ p
  | [], h => absurd h List.not_mem_nil
  | [p], h => .inr ⟨p, List.mem_cons_self, h⟩
  | p :: q :: r, h => by
    have h2 : c ∈ p ++ (S ++ TL.joinL S (q :: r)) := h
    rcases List.mem_append.mp h2 with h2 | h2
    · exact .inr ⟨p, List.mem_cons_self, h2⟩
    rcases List.mem_append.mp h2 with h2 | h2
    · exact .inl h2
    rcases mem_joinL h2 with h3 | ⟨z, hz, h3⟩
    · exact .inl h3
    · exact .inr ⟨z, List.mem_cons_of_mem _ hz, h3⟩
/-- the signs of texts put one behind the other -/
theorem mem_join0 {xs : List Str} {c : Nat} (h : c ∈ (Txt.join "" xs).cps.toList) : ∃ x ∈ xs, c ∈ x.cps.toList := by
  have h2 : c ∈ TL.tl (Txt.join "" xs) := h
  rw [TL.join_eq, TL.tl_join] at h2
  rcases mem_joinL h2 with h3 | ⟨z, hz, h3⟩
  · exact absurd h3 List.not_mem_nil
  · obtain ⟨x, hx, rfl⟩ := List.mem_map.mp hz
    exact ⟨x, hx, h3⟩
end G
namespace G
open PySem PySem.Spec PyProof.Rows L2
theorem sqT_same {K : PySem.W.Frag} {H H' : Hp} {a : Addr} {xs : List V} (e : Same H H') (h : SqT K H a xs) : SqT K H' a xs := by
  rcases h with (h | ⟨o, h⟩) | h
  · exact .inl (.inl (e _ _ h))
  · exact .inl (.inr ⟨o, e _ _ h⟩)
  · exact .inr h
theorem same_upd {H : Hp} {p : Addr} {o : HO} (f : H p = none) : Same H (upd H p o) := fun _ _ e => upd_old e f
theorem sqT_up {K : PySem.W.Frag} {H : Hp} {a p : Addr} {o : HO} {xs : List V} (h : SqT K H a xs) (f : H p = none) : SqT K (upd H p o) a xs := sqT_same (same_upd f) h
theorem tyX_same {K : PySem.W.Frag} {H H' : Hp} {v : V} {t : Value} (e : Same H H') (h : TyX K H v t) : TyX K H' v t := by
  cases h with
  | base h =>
    refine .base ?_
    cases h with
    | non => exact .non
    | bl x => exact .bl x
    | int x => exact .int x
    | str x => exact .str x
    | flt x => exact .flt x
    | lst h => exact .lst (e _ _ h)
    | frz h => exact .frz (e _ _ h)
    | tup h => exact .tup (e _ _ h)
    | dK h => exact .dK (e _ _ h)
    | dT h => exact .dT (e _ _ h)
    | ins h c a b d f => exact .ins (e _ _ h) c a b d f
  | byt b => exact .byt b
  | set h => exact .set (e _ _ h)
  | kList h c => exact .kList h c
  | kTuple h c => exact .kTuple h c
  | kDict h c => exact .kDict h c
  | fTuple h => exact .fTuple (e _ _ h)
  | fDict h => exact .fDict (e _ _ h)
theorem thing_same {K : PySem.W.Frag} {H H' : Hp} {v : V} {n : String} (e : Same H H') (h : Thing K H v n) : Thing K H' v n := by
  cases h with
  | non => exact .non
  | bl b => exact .bl b
  | int i => exact .int i
  | str x => exact .str x
  | lst h => exact .lst (tyX_same e h)
  | tup h => exact .tup (tyX_same e h)
  | dict h => exact .dict (tyX_same e h)
theorem thing_tup {K : PySem.W.Frag} {H : Hp} {a : Addr} {xs : List V} (h : SqT K H a xs) : Thing K H (.ref a) "tuple" := by
  refine .tup ?_
  rcases h with (h | ⟨o, h⟩) | ⟨o, its, n, h1, h2, _⟩
  · exact .base (.tup h)
  · exact .fTuple h
  · exact .kTuple h1 h2
theorem thing_lst {K : PySem.W.Frag} {H : Hp} {a : Addr} {xs : List V} (h : SqL K H a xs) : Thing K H (.ref a) "list" := by
  refine .lst ?_
  rcases h with (h | ⟨o, h⟩) | ⟨o, its, n, h1, h2, _⟩
  · exact .base (.lst h)
  · exact .base (.frz h)
  · exact .kList h1 h2
/-! ### images -/
def leadB (i : Int) : Bool := decide (i / 4096 = 8) || decide (i / 4096 = 9) || decide (i / 4096 = 10) || decide (i / 4096 = 13) || decide (i / 4096 = 14)
def leadsV (n : Int) : V → Bool
  | .int i => !leadB i || decide (i % 4096 < n)
  | _ => false
/-- is it an image, by its items? -/
def imgB (xs : List V) : Bool := decide (1 ≤ (xs.length : Int)) && (decide ((xs.length : Int) ≤ 1000) && (xs.all (fun v => btwV v 0 65535) && xs.all (leadsV xs.length)))
theorem inV_lead (i : Int) : inV (.int (i / 4096)) [.int 8, .int 9, .int 10, .int 13, .int 14] = leadB i := by
  simp only [inV, List.any_cons, List.any_nil, eqV, leadB, Bool.or_false, Bool.or_assoc]
  have h : ∀ k : Int, (k == i / 4096) = decide (i / 4096 = k) := fun k => by
    by_cases e : i / 4096 = k
    · rw [e]; simp
    · have e2 : ¬ k = i / 4096 := fun z => e z.symm
      simp [e, e2]
  simp only [h]
theorem all_bl (bs : List Bool) : (bs.map V.bl).length = bs.length := List.length_map ..
theorem ints_inj : ∀ {ws ws' : List Int}, ws.map V.int = ws'.map V.int → ws = ws'
  | [], [], _ => rfl
  | [], _ :: _, h => nomatch h
  | _ :: _, [], h => nomatch h
  | w :: ws, w' :: ws', h => by
    rw [List.map_cons, List.map_cons] at h
    obtain ⟨h1, h2⟩ := List.cons.inj h
    cases h1
    rw [ints_inj h2]
theorem dpT_ints {K : PySem.W.Frag} {H : Hp} {a : Addr} {ns : List Int} (h : SqT K H a (ns.map V.int)) : Dp K H (.ref a) (.tuple (ns.map .int)) := .tup h (dpAll_ints ns)
theorem fineT_ints {ns : List Int} (h : ∀ n ∈ ns, n.natAbs < 10 ^ 12) (l : ns.length ≤ 500000) : fine (.tuple (ns.map .int)) = true ∧ (PyData.tuple (ns.map .int)).depth ≤ 60 ∧ (PyData.tuple (ns.map .int)).bulk ≤ 2 ^ 20 := by
  have h1 := bulkAll_ints ns
  refine ⟨by simpa only [fine] using fineAll_ints h, ?_, ?_⟩
  · simp only [PyData.depth, depthAll_ints]
    decide
  · simp only [PyData.bulk]
    have : (2 : Nat) ^ 20 = 1048576 := by decide
    omega
theorem shapedT_ints (ns : List Int) : SeqAt.shaped (.tuple (ns.map .int)) = true :=
  shaped_of (by simpa only [PyData.canLay0] using canLay_ints ns) (by simp only [PyData.depth, depthAll_ints]; decide)
theorem things_ints {K : PySem.W.Frag} {H : Hp} (ws : List Int) : ∀ x ∈ ws.map V.int, ∃ n, Thing K H x n := fun x h => by
  obtain ⟨i, _, rfl⟩ := List.mem_map.mp h
  exact ⟨_, .int i⟩
end G
namespace G
open PySem PySem.Spec PyProof.Rows L2
/-! ### classes of the module: their methods, how they are made -/
def clsBody : Stmt → List Stmt
  | .ClassDef (body := b) .. => b
  | _ => []
def clsItem (st : Stmt) (i : Nat) : Stmt := (G.clsBody st).getD i (.Pass ⟨0, 0, 0, 0⟩)
structure MethAt (K : PySem.W.Frag) (C : Addr) (m q : Str) (st : Stmt) (ps : List Str) (f : Addr) (fd : FuncData) : Prop where
  fn : Fun K m q st f fd
  me : Meth K C m f
  bd : Binds K fd ps []
abbrev TopMeth (K : PySem.W.Frag) (C : Addr) (m q : Str) (st : Stmt) (ps : List Str) : Prop := ∃ f fd, MethAt K C m q st ps f fd
structure InitAt (K : PySem.W.Frag) (C : Addr) (q : Str) (st : Stmt) (dvs : List V) (kws : List (Str × V)) (f : Addr) (fd : FuncData) : Prop where
  fn : FunD K "__init__" q (defArgs st) (defBody st) (defScope st) dvs kws f fd
  mke : Mk K C f
theorem meth_mk {K : PySem.W.Frag} {C : Addr} {m q : Str} {st : Stmt} {ps : List Str} {f : Addr} {od an : Option Addr} {sl : Array (Option Value)} {oc kV dc pm cd ct : Value}
    (fi : PySem.W.findIn K (.ref C) m = some (some (.ref f))) (fn : PySem.W.isFn K (.ref f) = true) (l : K.lookup f = some ⟨oc, od, .func (PySem.W.fnOf m q (defArgs st) (defBody st) (defScope st) .none kV dc pm an cd ct), sl⟩)
    (c : PySem.W.codeIn K cd q = true) (kp : PySem.W.keepIn K (.ref f) = true)
    (b : ∀ (kV doc pm : Value) (an : Option Addr) (cdv ct : Value) (us : List Value), us.length = ps.length → bindArgs (PySem.W.fnOf m q (defArgs st) (defBody st) (defScope st) .none kV doc pm an cdv ct) ⟨us, []⟩ = pure (ps.zip us)) : TopMeth K C m q st ps :=
  ⟨f, _, fun_mk (st := st) l c kp, ⟨fi, fn, kp⟩, (fun_mk (st := st) l c kp).binds b⟩
theorem cls_mk {K : PySem.W.Frag} {C : Addr} (pg : PySem.W.plainGet K C Str.empty = true) (hd : PySem.W.hasDictIn K C = true) (po : PySem.W.plainOver K C = true) (sa : PySem.W.findIn K (.ref C) "__setattr__" = some (some (.builtin "object.__setattr__"))) : Cls K C := ⟨pg, hd, po, sa⟩
/-- the empty tuple among the defaults -/
theorem kw_int {K : PySem.W.Frag} {D : Addr} {x : Str} {i : Int} {t : Tok} (h : PySem.W.nsIn K D x = some (some (.int i t))) : ∃ u, PySem.W.nsIn K D x = some (some u) ∧ RelV (.int i) u := ⟨_, h, _, rfl⟩
theorem kw_str {K : PySem.W.Frag} {D : Addr} {x : Str} {i : Str} {t : Tok} (h : PySem.W.nsIn K D x = some (some (.str i t))) : ∃ u, PySem.W.nsIn K D x = some (some u) ∧ RelV (.str i) u := ⟨_, h, _, rfl⟩
theorem init_mk {K : PySem.W.Frag} {C : Addr} {q : Str} {st : Stmt} {dvs : List V} {kws : List (Str × V)} {f D : Addr} {od an : Option Addr} {sl : Array (Option Value)} {oc dV dc pm cd ct : Value}
    (fi : PySem.W.findIn K (.ref C) "__init__" = some (some (.ref f))) (fn : PySem.W.isFn K (.ref f) = true) (l : K.lookup f = some ⟨oc, od, .func (PySem.W.fnOf "__init__" q (defArgs st) (defBody st) (defScope st) dV (.ref D) dc pm an cd ct), sl⟩)
    (c : PySem.W.codeIn K cd q = true) (kp : PySem.W.keepIn K (.ref f) = true) (mk : PySem.W.makesIn K C = true) (kc : PySem.W.keepIn K (.ref C) = true) (hd : DflV K dV dvs) (hk : ∀ q ∈ kws, ∃ u, PySem.W.nsIn K D q.1 = some (some u) ∧ RelV q.2 u) :
    ∃ f fd, InitAt K C q st dvs kws f fd := ⟨f, _, ⟨⟨oc, od, dV, .ref D, dc, pm, an, cd, ct, sl, rfl, l, c, hd, .inr ⟨D, rfl, hk⟩⟩, kp⟩, mk, fi, fn, kc⟩
theorem dfl_none {K : PySem.W.Frag} : DflV K .none [] := .inl ⟨rfl, rfl⟩
theorem dfl_some {K : PySem.W.Frag} {T : Addr} {d : V} {dvs : List V} {us : List Value} {dd : Option Addr} {sl : Array (Option Value)} {n : Nat} (t : K.lookup T = some ⟨.type "tuple", dd, .seq us.toArray n, sl⟩) (v : Vals (d :: dvs) us) : DflV K (.ref T) (d :: dvs) :=
  .inr ⟨fun z => (nomatch z), T, _, us, n, rfl, t, rfl, v⟩
section
variable {P : Program} {w : World} {K : PySem.W.Frag} {mg : Str → Option Value} {base : Heap} {k n : Nat} {x m q : Str} {C : Addr} {sp : Sp} {ps : List Str} {f : Addr} {fd : FuncData} {st : Stmt} {dvs : List V} {kws : List (Str × V)}
/-- a def with defaults, by its body -/
theorem fn_of_bodyI (D : FunD K x q (defArgs st) (defBody st) (defScope st) dvs kws f fd) {N : List Str} (S : FnScope N ps (defScope st)) (len : ∀ vs H Q E, sp vs H Q E → vs.length = ps.length)
    (hbody : ∀ (cdv : Value) (A : Around) (outer : List Env) (s : Shared) (H : Hp) (vs : List V) (Q : VK) (E : XK), Room k (A.deeper (envOfC q (defScope st) s.heap.objs.size f cdv)) → sp vs H Q E →
      ∃ t, PSs (cxOf (L2.CX P w) P w K mg base N q (defScope st) f cdv A outer s H E) (defBody st) t ∧ t { nx := fun _ H' => Q .non H', rt := Q } (start N vs) H) : FnG Room P w K mg base (k + 1) f fd ps sp := by
  obtain ⟨oc, od, dV, kV, doc, pm, an, cdv, ct, osl, rfl, lk, hcd, _, _⟩ := D.ex
  exact FnG.body rl_room lk hcd S len (hbody cdv)
/-- a method, as it is called -/
structure CalM (P : Program) (w : World) (K : PySem.W.Frag) (mg : Str → Option Value) (base : Heap) (k : Nat) (C : Addr) (m : Str) (sp : Sp) : Prop where
  ex : ∃ f fd ps, FnOk P w K mg base (L2.CX P w) k f fd ps sp ∧ Meth K C m f ∧ Cls K C ∧ Binds K fd ps []
theorem calM_mk (c : Cls K C) (D : MethAt K C m q st ps f fd) (F : FnG Room P w K mg base k f fd ps sp) : CalM P w K mg base k C m sp := ⟨f, fd, ps, F.ok, D.me, c, D.bd⟩
/-- how a class is made: n positional values, the keywords ks -/
structure CalI (P : Program) (w : World) (K : PySem.W.Frag) (mg : Str → Option Value) (base : Heap) (k : Nat) (x : Str) (C : Addr) (n : Nat) (ks : List Str) (gV : List V → List V → List V) (sp : Sp) : Prop where
  ex : ∃ f fd ps g, FnOk P w K mg base (L2.CX P w) k f fd ps sp ∧ Mk K C f ∧ KBn K fd ps (n + 1) ks g gV ∧ mg x = some (.ref C)
/-- bound by n positional values and the keywords ks; the keyword-only ones ms lack -/
theorem FunD.kbindsD (F : FunD K x q (defArgs st) (defBody st) (defScope st) dvs kws f fd) (n : Nat) (ks : List Str) (ms : List (Str × V)) (g : {α : Type} → List α → List α → List α → List α) (hk : kws ≠ []) (hms : ∀ q ∈ ms, q ∈ kws)
    (hrel : ∀ {vs mz zs : List V} {us mv ws : List Value}, Vals vs us → Vals mz mv → Vals zs ws → Vals (g vs mz zs) (g us mv ws))
    (h : ∀ (dV : Value) (D : Addr) (doc pm : Value) (an : Option Addr) (cdv ct : Value) (us mv ws : List Value), us.length = n → mv.length = ms.length → ws.length = ks.length →
      KwChain D ((ms.map (·.1)).zip mv) (bindArgs (PySem.W.fnOf x q (defArgs st) (defBody st) (defScope st) dV (.ref D) doc pm an cdv ct) ⟨us, ks.zip ws⟩) (ps.zip (g us mv ws))) :
    ∃ mv : List Value, KBn K fd ps n ks (fun us ws => g us mv ws) (fun vs zs => g vs (ms.map (·.2)) zs) := by
  obtain ⟨oc, od, dV, kV, doc, pm, an, cdv, ct, osl, rfl, lk, hcd, hD, hK⟩ := F.ex
  rcases hK with e | ⟨D, rfl, hq⟩
  · exact absurd e hk
  · obtain ⟨mv, hl, rk, hks⟩ := kwd_vals (ms := ms) fun q hm => hq q (hms q hm)
    exact ⟨mv, ⟨fun s us ws X l1 l2 => BindsTo.of_looks fun M => KwChain.looks X hks (h dV D doc pm an cdv ct us mv ws l1 hl l2), fun r1 r2 => hrel r1 rk r2⟩⟩
theorem calI_mk {ks : List Str} (D : InitAt K C q st dvs kws f fd) (hm : mg x = some (.ref C)) (F : FnG Room P w K mg base k f fd ps sp) (ms : List (Str × V)) (g : {α : Type} → List α → List α → List α → List α) (hk : kws ≠ []) (hms : ∀ q ∈ ms, q ∈ kws)
    (hrel : ∀ {vs mz zs : List V} {us mv ws : List Value}, Vals vs us → Vals mz mv → Vals zs ws → Vals (g vs mz zs) (g us mv ws))
    (h : ∀ (dV : Value) (D : Addr) (doc pm : Value) (an : Option Addr) (cdv ct : Value) (us mv ws : List Value), us.length = n + 1 → mv.length = ms.length → ws.length = ks.length →
      KwChain D ((ms.map (·.1)).zip mv) (bindArgs (PySem.W.fnOf "__init__" q (defArgs st) (defBody st) (defScope st) dV (.ref D) doc pm an cdv ct) ⟨us, ks.zip ws⟩) (ps.zip (g us mv ws))) :
    CalI P w K mg base k x C n ks (fun vs zs => g vs (ms.map (·.2)) zs) sp := by
  obtain ⟨mv, b⟩ := FunD.kbindsD D.fn (n + 1) ks ms g hk hms hrel h
  exact ⟨f, fd, ps, _, F.ok, D.mke, b, hm⟩
end
section
variable {X : Cx} {k n : Nat} {x m : Str} {C : Addr} {sp : Sp} {E : XK} {o e : Expr} {es : List Expr} {kws : List Keyword} {ta : TE} {t tk : TA} {p pos apos : Pos} {pl : Sem Bool} {ks : List Str} {gV : List V → List V → List V}
theorem pe_m (M : CalM X.prog X.w X.K X.mg X.base k C m sp) (hr : Room k X.A) (hx : Passes (L2.CX X.prog X.w) X E) (he : PE X o ta) (ha : PA X (e :: es) t)
    (hst : starEach (e :: es) X.env = (false, eval e X.env) :: starEach es X.env := by rfl) (hpl : (backTo pos (starEach es X.env)).any (·.1) = false := by rfl)
    (ht : eval (.Call (.Attribute o m apos) (e :: es) [] pos) X.env = (do
      let ov ← eval o X.env
      standAt apos.atName
      let (f, first) ← holding [ov] (getMethod ov m pl)
      callWith pos f first (backTo pos (starEach (e :: es) X.env)) (backToKw pos (keywordEach [] X.env))) := by rfl) :
    PE X (.Call (.Attribute o m apos) (e :: es) [] pos) (tMeth C m sp [] E ta t) := by
  obtain ⟨f, fd, ps, F, me, c, b⟩ := M.ex
  exact pe_meth he c me F hr b .nil hx ha hst hpl ht
theorem pe_m0 (M : CalM X.prog X.w X.K X.mg X.base k C m sp) (hr : Room k X.A) (hx : Passes (L2.CX X.prog X.w) X E) (he : PE X o ta)
    (ht : eval (.Call (.Attribute o m apos) [] [] pos) X.env = (do
      let ov ← eval o X.env
      standAt apos.atName
      let (f, first) ← holding [ov] (getMethod ov m pl)
      callWith pos f first (backTo pos (starEach [] X.env)) (backToKw pos (keywordEach [] X.env))) := by rfl) :
    PE X (.Call (.Attribute o m apos) [] [] pos) (tMeth C m sp [] E ta tNil) := by
  obtain ⟨f, fd, ps, F, me, c, b⟩ := M.ex
  exact pe_meth0 he c me F hr b .nil hx ht
/-- C(e, .., k = v, ..) -/
theorem pe_i (M : CalI X.prog X.w X.K X.mg X.base k x C n ks gV sp) (hr : Room (k + 1) X.A) (hx : Passes (L2.CX X.prog X.w) X E) (ha : PA X (e :: es) t) (hkw : PK X kws tk) (hg : Gl X x := by rfl)
    (hall : (backToKw pos (keywordEach kws X.env)).all (·.1.isSome) = true := by rfl) (hks : (backToKw pos (keywordEach kws X.env)).filterMap (·.1) = ks := by rfl) (hdb : (x == ("__debug__" : Str)) = false := by decide)
    (he : starEach (e :: es) X.env = (false, eval e X.env) :: starEach es X.env := by rfl) (hpl : ((backTo pos (starEach (e :: es) X.env)).any (·.1) || (backToKw pos (keywordEach kws X.env)).any (·.1.isNone)) = false := by rfl) :
    PE X (.Call (.Name x p) (e :: es) kws pos) (tMakeK C n ks.length sp gV E t tk) := by
  obtain ⟨f, fd, ps, g, F, mk, b, hm⟩ := M.ex
  exact pe_makeK mk F hr hg hm b hx ha hkw hall hks hdb he hpl
end
end G
namespace G
open PySem PySem.Spec PyProof.Rows L2
theorem noAttr_mk {K : PySem.W.Frag} {C : Addr} {f : Str} (h : PySem.W.findIn K (.ref C) f = some none) : NoAttr K C f := h
theorem kws_nil {K : PySem.W.Frag} {D : Addr} : ∀ q ∈ ([] : List (Str × V)), ∃ u, PySem.W.nsIn K D q.1 = some (some u) ∧ RelV q.2 u := fun _ h => absurd h List.not_mem_nil
theorem kws_cons {K : PySem.W.Frag} {D : Addr} {p : Str × V} {kws : List (Str × V)} (h1 : ∃ u, PySem.W.nsIn K D p.1 = some (some u) ∧ RelV p.2 u) (h2 : ∀ q ∈ kws, ∃ u, PySem.W.nsIn K D q.1 = some (some u) ∧ RelV q.2 u) :
    ∀ q ∈ p :: kws, ∃ u, PySem.W.nsIn K D q.1 = some (some u) ∧ RelV q.2 u := fun q h => (List.mem_cons.mp h).elim (fun e => e ▸ h1) (h2 q)
end G
namespace G
open PySem PySem.Spec PyProof.Rows L2
section
variable {P : Program} {w : World} {K : PySem.W.Frag} {mg : Str → Option Value} {base : Heap} {k n : Nat} {x q : Str} {C : Addr} {sp : Sp} {ps : List Str} {f : Addr} {fd : FuncData} {st : Stmt} {dvs : List V} {kws : List (Str × V)}
/-- with positional defaults: g takes what is given, the defaults, the keyword-only defaults that lack, the keywords -/
theorem calI_mkD {ks : List Str} (D : InitAt K C q st dvs kws f fd) (hm : mg x = some (.ref C)) (F : FnG Room P w K mg base k f fd ps sp) (ms : List (Str × V)) (g : {α : Type} → List α → List α → List α → List α → List α) (hd : dvs ≠ []) (hk : kws ≠ []) (hms : ∀ q ∈ ms, q ∈ kws) {gV : List V → List V → List V}
    (hrel : ∀ {vs zs : List V} {us its mv ws : List Value}, Vals vs us → Vals dvs its → Vals (ms.map (·.2)) mv → Vals zs ws → Vals (gV vs zs) (g us its mv ws))
    (h : ∀ (T D : Addr) (doc pm : Value) (an : Option Addr) (cdv ct : Value) (us its mv ws : List Value), us.length = n + 1 → its.length = dvs.length → mv.length = ms.length → ws.length = ks.length →
      ∃ k, bindArgs (PySem.W.fnOf "__init__" q (defArgs st) (defBody st) (defScope st) (.ref T) (.ref D) doc pm an cdv ct) ⟨us, ks.zip ws⟩ = seqItems? (.ref T) >>= k ∧ KwChain D ((ms.map (·.1)).zip mv) (k (some its.toArray)) (ps.zip (g us its mv ws))) :
    CalI P w K mg base k x C n ks gV sp := by
  have := D.fn
  obtain ⟨oc, od, dV, kV, doc, pm, an, cdv, ct, osl, rfl, lk, hcd, hD, hK⟩ := this.ex
  rcases hD with ⟨e, _⟩ | ⟨_, T, o, its, m, rfl, lT, oT, rT⟩
  · exact absurd e hd
  · rcases hK with e | ⟨D', rfl, hq⟩
    · exact absurd e hk
    · obtain ⟨mv, hl, rk, hks⟩ := kwd_vals (ms := ms) fun q hm => hq q (hms q hm)
      refine ⟨f, _, ps, fun us ws => g us its mv ws, F.ok, D.mke, ⟨fun s us ws X l1 l2 => ?_, fun r1 r2 => hrel r1 rT rk r2⟩, hm⟩
      obtain ⟨k, e1, e2⟩ := h T D' doc pm an cdv ct us its mv ws l1 rT.length.symm hl l2
      refine BindsTo.of_looks fun M => ?_
      rw [e1]
      exact looks_items X lT oT (KwChain.looks X hks e2)
end
end G
namespace G
open PySem PySem.Spec PyProof.Rows L2
/-! ### methods with keyword-only parameters -/
structure MethKAt (K : PySem.W.Frag) (C : Addr) (m q : Str) (st : Stmt) (dvs : List V) (kws : List (Str × V)) (f : Addr) (fd : FuncData) : Prop where
  fn : FunD K m q (defArgs st) (defBody st) (defScope st) dvs kws f fd
  me : Meth K C m f
theorem methK_mk {K : PySem.W.Frag} {C : Addr} {m q : Str} {st : Stmt} {dvs : List V} {kws : List (Str × V)} {f D : Addr} {od an : Option Addr} {sl : Array (Option Value)} {oc dV dc pm cd ct : Value}
    (fi : PySem.W.findIn K (.ref C) m = some (some (.ref f))) (fn : PySem.W.isFn K (.ref f) = true) (l : K.lookup f = some ⟨oc, od, .func (PySem.W.fnOf m q (defArgs st) (defBody st) (defScope st) dV (.ref D) dc pm an cd ct), sl⟩)
    (c : PySem.W.codeIn K cd q = true) (kp : PySem.W.keepIn K (.ref f) = true) (hd : DflV K dV dvs) (hk : ∀ q ∈ kws, ∃ u, PySem.W.nsIn K D q.1 = some (some u) ∧ RelV q.2 u) :
    ∃ f fd, MethKAt K C m q st dvs kws f fd := ⟨f, _, ⟨⟨oc, od, dV, .ref D, dc, pm, an, cd, ct, sl, rfl, l, c, hd, .inr ⟨D, rfl, hk⟩⟩, kp⟩, fi, fn, kp⟩
section
variable {P : Program} {w : World} {K : PySem.W.Frag} {mg : Str → Option Value} {base : Heap} {k n : Nat} {x m q : Str} {C : Addr} {sp : Sp} {ps : List Str} {f : Addr} {fd : FuncData} {st : Stmt} {dvs : List V} {kws : List (Str × V)}
/-- o.m(e, ..), the rest left out -/
structure CalMD (P : Program) (w : World) (K : PySem.W.Frag) (mg : Str → Option Value) (base : Heap) (k : Nat) (C : Addr) (m : Str) (dvs : List V) (sp : Sp) : Prop where
  ex : ∃ f fd ps ds, FnOk P w K mg base (L2.CX P w) k f fd ps sp ∧ Meth K C m f ∧ Cls K C ∧ Vals dvs ds ∧ Binds K fd ps ds
/-- o.m(e, .., k = v, ..) -/
structure CalMK (P : Program) (w : World) (K : PySem.W.Frag) (mg : Str → Option Value) (base : Heap) (k : Nat) (C : Addr) (m : Str) (n : Nat) (ks : List Str) (gV : List V → List V → List V) (sp : Sp) : Prop where
  ex : ∃ f fd ps g, FnOk P w K mg base (L2.CX P w) k f fd ps sp ∧ Meth K C m f ∧ Cls K C ∧ KBn K fd ps (n + 1) ks g gV
/-- no positional defaults; all keyword-only ones lack -/
theorem calMD_mk (c : Cls K C) (D : MethKAt K C m q st [] kws f fd) (F : FnG Room P w K mg base k f fd ps sp) (n : Nat) (hk : kws ≠ []) (hn : n + kws.length = ps.length)
    (h : ∀ (D : Addr) (doc pm : Value) (an : Option Addr) (cdv ct : Value) (us ks : List Value), us.length = n → ks.length = kws.length →
      KwChain D ((kws.map (·.1)).zip ks) (bindArgs (PySem.W.fnOf m q (defArgs st) (defBody st) (defScope st) .none (.ref D) doc pm an cdv ct) ⟨us, []⟩) (ps.zip (us ++ ks))) : CalMD P w K mg base k C m (kws.map (·.2)) sp := by
  obtain ⟨ds, r, b⟩ := D.fn.binds0 n hk hn h
  exact ⟨f, fd, ps, ds, F.ok, D.me, c, r, b⟩
theorem calMK_mk {ks : List Str} (c : Cls K C) (D : MethKAt K C m q st [] kws f fd) (F : FnG Room P w K mg base k f fd ps sp) (ms : List (Str × V)) (g : {α : Type} → List α → List α → List α → List α) (hk : kws ≠ []) (hms : ∀ q ∈ ms, q ∈ kws)
    (hrel : ∀ {vs mz zs : List V} {us mv ws : List Value}, Vals vs us → Vals mz mv → Vals zs ws → Vals (g vs mz zs) (g us mv ws))
    (h : ∀ (D : Addr) (doc pm : Value) (an : Option Addr) (cdv ct : Value) (us mv ws : List Value), us.length = n + 1 → mv.length = ms.length → ws.length = ks.length →
      KwChain D ((ms.map (·.1)).zip mv) (bindArgs (PySem.W.fnOf m q (defArgs st) (defBody st) (defScope st) .none (.ref D) doc pm an cdv ct) ⟨us, ks.zip ws⟩) (ps.zip (g us mv ws))) :
    CalMK P w K mg base k C m n ks (fun vs zs => g vs (ms.map (·.2)) zs) sp := by
  obtain ⟨mv, b⟩ := D.fn.kbinds0 (n + 1) ks ms g hk hms hrel h
  exact ⟨f, fd, ps, _, F.ok, D.me, c, b⟩
end
section
variable {X : Cx} {k n : Nat} {x m : Str} {C : Addr} {sp : Sp} {E : XK} {o e : Expr} {es : List Expr} {kws : List Keyword} {ta : TE} {t tk : TA} {p pos apos : Pos} {pl : Sem Bool} {ks : List Str} {gV : List V → List V → List V} {dvs : List V}
theorem pe_md0 (M : CalMD X.prog X.w X.K X.mg X.base k C m dvs sp) (hr : Room k X.A) (hx : Passes (L2.CX X.prog X.w) X E) (he : PE X o ta)
    (ht : eval (.Call (.Attribute o m apos) [] [] pos) X.env = (do
      let ov ← eval o X.env
      standAt apos.atName
      let (f, first) ← holding [ov] (getMethod ov m pl)
      callWith pos f first (backTo pos (starEach [] X.env)) (backToKw pos (keywordEach [] X.env))) := by rfl) :
    PE X (.Call (.Attribute o m apos) [] [] pos) (tMeth C m sp dvs E ta tNil) := by
  obtain ⟨f, fd, ps, ds, F, me, c, hd, b⟩ := M.ex
  exact pe_meth0 he c me F hr b hd hx ht
/-- o.m(k = v, ..) -/
def tMethK (C : Addr) (m : Str) (n : Nat) (sp : Sp) (gV : List V → List V → List V) (E : XK) (ta : TE) (tk : TA) : TE := fun σ H Q => ta σ H fun x H1 => ∃ a dx fs, x = .ref a ∧ H1 a = some (.ins C dx fs) ∧ fs.lookup m = none ∧
  tk σ H1 fun zs H2 => zs.length = n ∧ sp (gV [x] zs) H2 Q E
theorem pe_mk0 (M : CalMK X.prog X.w X.K X.mg X.base k C m 0 ks gV sp) (hr : Room k X.A) (hx : Passes (L2.CX X.prog X.w) X E) (he : PE X o ta) (hkw : PK X kws tk)
    (hall : (backToKw pos (keywordEach kws X.env)).all (·.1.isSome) = true := by rfl) (hks : (backToKw pos (keywordEach kws X.env)).filterMap (·.1) = ks := by rfl)
    (hpl : ((backTo pos (starEach [] X.env)).any (·.1) || (backToKw pos (keywordEach kws X.env)).any (·.1.isNone)) = false := by rfl)
    (ht : eval (.Call (.Attribute o m apos) [] kws pos) X.env = (do
      let ov ← eval o X.env
      standAt apos.atName
      let (f, first) ← holding [ov] (getMethod ov m pl)
      callWith pos f first (backTo pos (starEach [] X.env)) (backToKw pos (keywordEach kws X.env))) := by rfl) :
    PE X (.Call (.Attribute o m apos) [] kws pos) (tMethK C m ks.length sp gV E ta tk) := by
  obtain ⟨f, fd, ps, g, F, me, c, b⟩ := M.ex
  refine ⟨fun pins s σ H Q I h => ?_⟩
  refine PySem.W.methodCall_KW (pl := pl) (thn (he.run pins s σ H _ I h) fun u s1 ⟨x, H1, I1, rx, a, dx, fs, ex, ea, l, q⟩ => ?_) ht
  subst ex
  obtain rfl : u = Value.ref a := rx
  refine getmeth_ok I1 ea c me l ?_
  refine PySem.W.callWith_KW0 (first := [.ref a]) (h₀ := X.base) I.ok.mod.kin me.kp hall ?_ hpl
  refine thn (hkw.run pos pins s1 σ H1 _ I1 q) fun ws s2 ⟨zs, H2, I2, rz, l2, q2⟩ => ⟨I2.kIn, ?_⟩
  rw [hks]
  have r1 : Vals [V.ref a] [Value.ref a] := .cons rfl .nil
  refine wpAny_call (codeAny_mono (F.run X.A X.stack s2 H2 ⟨[Value.ref a], ks.zip ws⟩ (g [Value.ref a] ws) _ Q E hr I2.env0 (b.to s2 [Value.ref a] ws I2.kIn rfl (rz.length.symm.trans l2)) (b.rel r1 rz) q2) fun r s' hq => ?_)
  cases r with
  | error e => exact hx pins σ H2 s2 e s' I2 hq
  | ok fl =>
    cases fl with
    | ret u => exact I2.after hq
    | next => exact False.elim hq
    | brk => exact False.elim hq
    | cont => exact False.elim hq
end
end G
namespace G
open PySem PySem.Spec PyProof.Rows L2
/-- e.f as a target among others -/
def gFld (K : PySem.W.Frag) (ta : TE) (f : Str) : TG := fun v σ H Q => ta σ H fun x H1 => ∃ a C dx fs, x = .ref a ∧ H1 a = some (.ins C dx fs) ∧ Cls K C ∧ NoAttr K C f ∧ fs.length < 1000 ∧ Q σ (upd H1 a (.ins C dx (putF f v fs)))
theorem pg_fld {X : Cx} {o : Expr} {f : Str} {pos : Pos} {ta : TE} (ha : PE X o ta) : PG X (.Attribute o f pos) (gFld X.K ta f) := by
  refine ⟨fun pins s σ H v u Q I r h => ?_⟩
  rw [assign_Attribute]
  refine wpAny_bind (wpAny_holding (thn (ha.run pins s σ H _ I h) fun ov s1 ⟨x, H1, I1, rx, a, C, dx, fs, ex, ea, c, n, l, q⟩ => ?_))
  subst ex
  obtain rfl : ov = Value.ref a := rx
  refine wpAny_bind (wpAny_standAt (wpAny_bind (wpAny_holding (setattr_ok I1 ea c n l r fun s3 I3 => ?_))))
  first
    | exact wpAny_release ⟨σ, _, I3, q⟩
    | exact wpAny_pure ⟨σ, _, I3, q⟩
end G
namespace G
open PySem PySem.Spec PyProof.Rows L2
section
variable {X : Cx} {k : Nat} {x : Str} {C : Addr} {sp : Sp} {E : XK} {kws : List Keyword} {tk : TA} {p pos : Pos} {ks : List Str} {gV : List V → List V → List V}
/-- C(k = v, ..), C() -/
theorem pe_i0 (M : CalI X.prog X.w X.K X.mg X.base k x C 0 ks gV sp) (hr : Room (k + 1) X.A) (hx : Passes (L2.CX X.prog X.w) X E) (hkw : PK X kws tk) (hg : Gl X x := by rfl)
    (hall : (backToKw pos (keywordEach kws X.env)).all (·.1.isSome) = true := by rfl) (hks : (backToKw pos (keywordEach kws X.env)).filterMap (·.1) = ks := by rfl) (hdb : (x == ("__debug__" : Str)) = false := by decide)
    (hpl : ((backTo pos (starEach [] X.env)).any (·.1) || (backToKw pos (keywordEach kws X.env)).any (·.1.isNone)) = false := by rfl) :
    PE X (.Call (.Name x p) [] kws pos) (tMakeK C 0 ks.length sp gV E tNil tk) := by
  obtain ⟨f, fd, ps, g, F, mk, b, hm⟩ := M.ex
  exact pe_makeK0 mk F hr hg hm b hx hkw hall hks hdb hpl
end
end G
namespace G
open PySem PySem.Spec PyProof.Rows L2
/-! ### defs of the top with keyword-only defaults -/
structure DefKAt (K : PySem.W.Frag) (mg : Str → Option Value) (x : Str) (st : Stmt) (dvs : List V) (kws : List (Str × V)) (f : Addr) (fd : FuncData) : Prop where
  fn : FunD K x x (defArgs st) (defBody st) (defScope st) dvs kws f fd
  mg : mg x = some (.ref f)
abbrev TopDefK (K : PySem.W.Frag) (mg : Str → Option Value) (x : Str) (st : Stmt) (dvs : List V) (kws : List (Str × V)) : Prop := ∃ f fd, DefKAt K mg x st dvs kws f fd
theorem defKAt_mk {K : PySem.W.Frag} {mg : Str → Option Value} {x : Str} {h : Heap} {st : Stmt} {dvs : List V} {kws : List (Str × V)} {f D : Addr} {od an : Option Addr} {sl : Array (Option Value)} {oc dV dc pm cd ct : Value} (X : K.In h) (g : h.Ns mainGlobals mg)
    (a : PySem.W.nsIn K mainGlobals x = some (some (.ref f))) (l : K.lookup f = some ⟨oc, od, .func (PySem.W.fnOf x x (defArgs st) (defBody st) (defScope st) dV (.ref D) dc pm an cd ct), sl⟩)
    (c : PySem.W.codeIn K cd x = true) (kp : PySem.W.keepIn K (.ref f) = true) (hd : DflV K dV dvs) (hk : ∀ q ∈ kws, ∃ u, PySem.W.nsIn K D q.1 = some (some u) ∧ RelV q.2 u) : TopDefK K mg x st dvs kws :=
  ⟨f, _, ⟨⟨oc, od, dV, .ref D, dc, pm, an, cd, ct, sl, rfl, l, c, hd, .inr ⟨D, rfl, hk⟩⟩, kp⟩, PySem.W.mg_of X g a⟩
section
variable {P : Program} {w : World} {K : PySem.W.Frag} {mg : Str → Option Value} {base : Heap} {k : Nat} {x : Str} {ps ks : List Str} {dvs : List V} {kws : List (Str × V)} {sp : Sp} {f : Addr} {fd : FuncData}
theorem calK_mkK {st : Stmt} {g : {α : Type} → List α → List α → List α} (D : DefKAt K mg x st [] kws f fd) (hk : kws ≠ []) (F : FnG Room P w K mg base k f fd ps sp)
    (hrel : ∀ {vs zs : List V} {us ws : List Value}, Vals vs us → Vals zs ws → Vals (g vs zs) (g us ws))
    (h : ∀ (D : Addr) (doc pm : Value) (an : Option Addr) (cdv ct : Value) (us ws : List Value), (g us ws).length = ps.length → bindArgs (PySem.W.fnOf x x (defArgs st) (defBody st) (defScope st) .none (.ref D) doc pm an cdv ct) ⟨us, ks.zip ws⟩ = pure (ps.zip (g us ws))) :
    CalK Room P w K mg base k x ks g sp := by
  obtain ⟨oc, od, dV, kV, doc, pm, an, cdv, ct, osl, e, _, _, hD, hK⟩ := D.fn.ex
  rcases hD with ⟨_, rfl⟩ | ⟨z, _⟩
  · rcases hK with z | ⟨D2, rfl, _⟩
    · exact absurd z hk
    · refine ⟨f, fd, ps, g, F, D.mg, D.fn.kp, ⟨fun s us ws _ hl => ?_, hrel⟩⟩
      subst e
      exact .of_eq (h D2 doc pm an cdv ct us ws hl)
  · exact absurd rfl z
/-- .. some left out -/
theorem calK_mkKM {st : Stmt} (D : DefKAt K mg x st [] kws f fd) (F : FnG Room P w K mg base k f fd ps sp) (n : Nat) (ms : List (Str × V)) (g : {α : Type} → List α → List α → List α → List α) (hk : kws ≠ []) (hms : ∀ q ∈ ms, q ∈ kws)
    (hrel : ∀ {vs mz zs : List V} {us mv ws : List Value}, Vals vs us → Vals mz mv → Vals zs ws → Vals (g vs mz zs) (g us mv ws))
    (h : ∀ (D : Addr) (doc pm : Value) (an : Option Addr) (cdv ct : Value) (us mv ws : List Value), us.length = n → mv.length = ms.length → ws.length = ks.length →
      KwChain D ((ms.map (·.1)).zip mv) (bindArgs (PySem.W.fnOf x x (defArgs st) (defBody st) (defScope st) .none (.ref D) doc pm an cdv ct) ⟨us, ks.zip ws⟩) (ps.zip (g us mv ws)))
    (hl : ∀ us mv ws : List Value, (g us mv ws).length = ps.length → us.length = n ∧ ws.length = ks.length) : CalK Room P w K mg base k x ks (fun vs zs => g vs (ms.map (·.2)) zs) sp := by
  obtain ⟨mv, b⟩ := D.fn.kbinds0 n ks ms g hk hms hrel h
  refine ⟨f, fd, ps, _, F, D.mg, D.fn.kp, ⟨fun s us ws X hl' => ?_, b.rel⟩⟩
  obtain ⟨l1, l2⟩ := hl us mv ws hl'
  exact b.to s us ws X l1 l2
/-- .. with positional defaults, not used -/
theorem calK_mkKD {st : Stmt} {g : {α : Type} → List α → List α → List α} (D : DefKAt K mg x st dvs kws f fd) (hd : dvs ≠ []) (hk : kws ≠ []) (F : FnG Room P w K mg base k f fd ps sp)
    (hrel : ∀ {vs zs : List V} {us ws : List Value}, Vals vs us → Vals zs ws → Vals (g vs zs) (g us ws))
    (h : ∀ (T D : Addr) (doc pm : Value) (an : Option Addr) (cdv ct : Value) (us its ws : List Value), (g us ws).length = ps.length → its.length = dvs.length →
      ∃ k, bindArgs (PySem.W.fnOf x x (defArgs st) (defBody st) (defScope st) (.ref T) (.ref D) doc pm an cdv ct) ⟨us, ks.zip ws⟩ = seqItems? (.ref T) >>= k ∧ k (some its.toArray) = pure (ps.zip (g us ws))) :
    CalK Room P w K mg base k x ks g sp := by
  obtain ⟨oc, od, dV, kV, doc, pm, an, cdv, ct, osl, rfl, lk, hcd, hD, hK⟩ := D.fn.ex
  rcases hD with ⟨e, _⟩ | ⟨_, T, o, its, m, rfl, lT, oT, rT⟩
  · exact absurd e hd
  · rcases hK with z | ⟨D2, rfl, _⟩
    · exact absurd z hk
    · refine ⟨f, _, ps, g, F, D.mg, D.fn.kp, ⟨fun s us ws X hl => ?_, hrel⟩⟩
      obtain ⟨k, e1, e2⟩ := h T D2 doc pm an cdv ct us its ws hl rT.length.symm
      refine BindsTo.of_looks fun M => ?_
      rw [e1]
      exact looks_items X lT oT (.of_pure e2)
end
section
variable {ρ : Nat → Around → Prop} {X : Cx} {k : Nat} {x : Str} {ks : List Str} {gV : List V → List V → List V} {sp : Sp} {E : XK} {e : Expr} {es : List Expr} {kws : List Keyword} {t tk : TA} {p pos : Pos}
theorem pe_ck (C : CalK ρ X.prog X.w X.K X.mg X.base k x ks gV sp) (hr : ρ k X.A) (hx : Passes (L2.CX X.prog X.w) X E) (ha : PA X (e :: es) t) (hkw : PK X kws tk) (hg : Gl X x := by rfl) (hall : (backToKw pos (keywordEach kws X.env)).all (·.1.isSome) = true := by rfl)
    (hks : (backToKw pos (keywordEach kws X.env)).filterMap (·.1) = ks := by rfl) (hdb : (x == ("__debug__" : Str)) = false := by decide) (he : starEach (e :: es) X.env = (false, eval e X.env) :: starEach es X.env := by rfl)
    (hpl : ((backTo pos (starEach (e :: es) X.env)).any (·.1) || (backToKw pos (keywordEach kws X.env)).any (·.1.isNone)) = false := by rfl) :
    PE X (.Call (.Name x p) (e :: es) kws pos) (L2.tCallK sp gV E t tk) := by
  obtain ⟨f, fd, ps, g, F, m, kp, b⟩ := C.ex
  refine ⟨fun pins s σ H Q I h => ?_⟩
  refine wpAny_Call_Name_kw (ld_glob I hg m ?_ hdb)
  refine PySem.W.callWith_KW (h₀ := X.base) I.ok.mod.kin kp hall (thn (ha.run pos pins s σ H _ I h) fun us s1 ⟨vs, H1, I1, r, q⟩ => ?_) hpl he
  refine thn (hkw.run pos pins s1 σ H1 _ I1 q) fun ws s2 ⟨zs, H2, I2, rz, q2⟩ => ⟨I2.kIn, ?_⟩
  rw [hks]
  exact run_gk F hr b hx I2 r rz q2
theorem g_callK {σ : L2.St} {H : Hp} {Q : VK} (h : t σ H fun vs H1 => tk σ H1 fun zs H2 => sp (gV vs zs) H2 Q E) : L2.tCallK sp gV E t tk σ H Q := h
instance i_g_callK {σ : L2.St} {H : Hp} {Q : VK} : Lk (L2.tCallK sp gV E t tk σ H Q) (t σ H fun vs H1 => tk σ H1 fun zs H2 => sp (gV vs zs) H2 Q E) := ⟨g_callK⟩
end
end G
namespace G
open PySem PySem.Spec PyProof.Rows L2
/-- positional defaults used or not, keyword-only ones left out or not -/
theorem calK_mkKG {P : Program} {w : World} {K : PySem.W.Frag} {mg : Str → Option Value} {base : Heap} {k : Nat} {x : Str} {ps ks : List Str} {dvs : List V} {kws : List (Str × V)} {sp : Sp} {f : Addr} {fd : FuncData} {st : Stmt} (D : DefKAt K mg x st dvs kws f fd) (F : FnG Room P w K mg base k f fd ps sp) (ms : List (Str × V)) (g : {α : Type} → List α → List α → List α → List α → List α) (hd : dvs ≠ []) (hk : kws ≠ []) (hms : ∀ q ∈ ms, q ∈ kws)
    (hrel : ∀ {vs ds zs mz : List V} {us its mv ws : List Value}, Vals vs us → Vals ds its → Vals mz mv → Vals zs ws → Vals (g vs ds mz zs) (g us its mv ws))
    (h : ∀ (T D : Addr) (doc pm : Value) (an : Option Addr) (cdv ct : Value) (us its mv ws : List Value), (g us its mv ws).length = ps.length → its.length = dvs.length → mv.length = ms.length →
      ∃ k, bindArgs (PySem.W.fnOf x x (defArgs st) (defBody st) (defScope st) (.ref T) (.ref D) doc pm an cdv ct) ⟨us, ks.zip ws⟩ = seqItems? (.ref T) >>= k ∧ KwChain D ((ms.map (·.1)).zip mv) (k (some its.toArray)) (ps.zip (g us its mv ws))) :
    CalK Room P w K mg base k x ks (fun vs zs => g vs dvs (ms.map (·.2)) zs) sp := by
  obtain ⟨oc, od, dV, kV, doc, pm, an, cdv, ct, osl, rfl, lk, hcd, hD, hK⟩ := D.fn.ex
  rcases hD with ⟨e, _⟩ | ⟨_, T, o, its, m, rfl, lT, oT, rT⟩
  · exact absurd e hd
  · rcases hK with z | ⟨D2, rfl, hq⟩
    · exact absurd z hk
    · obtain ⟨mv, hl, rk, hks⟩ := kwd_vals (ms := ms) fun q hm => hq q (hms q hm)
      refine ⟨f, _, ps, fun us ws => g us its mv ws, F, D.mg, D.fn.kp, ⟨fun s us ws X hl2 => ?_, fun r1 r2 => hrel r1 rT rk r2⟩⟩
      obtain ⟨k, e1, e2⟩ := h T D2 doc pm an cdv ct us its mv ws hl2 rT.length.symm hl
      refine BindsTo.of_looks fun M => ?_
      rw [e1]
      exact looks_items X lT oT (KwChain.looks X hks e2)
end G
namespace G
open PySem PySem.Spec PyProof.Rows L2
/-! ### machines, as they are in the heap; what they do, in plain Lean -/
structure Mac where
  cells : List Int
  place : Int
  hand : Int
  text : Str
  read : Nat
  written : List Int
  ended : Bool
def isW (i : Int) : Prop := 0 ≤ i ∧ i ≤ 65535
structure Mac.Wf (m : Mac) : Prop where
  len : m.cells.length = 4096
  cells : ∀ c ∈ m.cells, isW c
  place : 0 ≤ m.place ∧ m.place ≤ 4095
  hand : isW m.hand
  read : m.read ≤ m.text.length
  size : m.text.length ≤ sizeLine
  text : ∀ c ∈ m.text.cps.toList, c ≤ 65535
  written : ∀ c ∈ m.written, isW c
def macF (L W : Addr) (m : Mac) : List (Str × V) :=
  [("own_cells", .ref L), ("own_place", .int m.place), ("own_hand", .int m.hand), ("own_text", .str m.text), ("own_read", .int (m.read : Int)), ("own_written", .ref W), ("own_ended", .bl m.ended)]
/-- the machine m stands at p -/
structure MacAt (mg : Str → Option Value) (p L W : Addr) (m : Mac) (H : Hp) : Prop where
  ins : ∃ C dx, mg "Machine" = some (.ref C) ∧ H p = some (.ins C dx (macF L W m))
  cells : H L = some (.lst (m.cells.map V.int))
  written : H W = some (.lst (m.written.map V.int))
  ne : L ≠ W
theorem MacAt.insC {mg : Str → Option Value} {p L W C : Addr} {m : Mac} {H : Hp} (h : MacAt mg p L W m H) (hm : mg "Machine" = some (.ref C)) : ∃ dx, H p = some (.ins C dx (macF L W m)) := by
  obtain ⟨C', dx, e, h⟩ := h.ins
  rw [hm] at e
  cases e
  exact ⟨dx, h⟩
theorem MacAt.same {mg : Str → Option Value} {p L W : Addr} {m : Mac} {H H' : Hp} (h : MacAt mg p L W m H) (s : Same H H') : MacAt mg p L W m H' :=
  ⟨let ⟨C, dx, e, h⟩ := h.ins; ⟨C, dx, e, s _ _ h⟩, s _ _ h.cells, s _ _ h.written, h.ne⟩
/-- all that stood stands, but for the machine -/
def ButM (p L W : Addr) (H H' : Hp) : Prop := ∀ b o, b ≠ p → b ≠ L → b ≠ W → H b = some o → H' b = some o
theorem ButM.refl (p L W : Addr) (H : Hp) : ButM p L W H H := fun _ _ _ _ _ h => h
theorem ButM.trans {p L W : Addr} {H H' H'' : Hp} (a : ButM p L W H H') (b : ButM p L W H' H'') : ButM p L W H H'' := fun c o n1 n2 n3 h => b c o n1 n2 n3 (a c o n1 n2 n3 h)
theorem ButM.of {p L W : Addr} {H H' : Hp} (s : Same H H') : ButM p L W H H' := fun c o _ _ _ h => s c o h
theorem MacAt.ne_p {mg : Str → Option Value} {p L W : Addr} {m : Mac} {H : Hp} (h : MacAt mg p L W m H) : L ≠ p ∧ W ≠ p := by
  obtain ⟨C, dx, _, hp⟩ := h.ins
  refine ⟨fun e => ?_, fun e => ?_⟩
  · have := h.cells
    rw [e, hp] at this
    cases this
  · have := h.written
    rw [e, hp] at this
    cases this
/-- fields are put -/
theorem MacAt.put {mg : Str → Option Value} {p L W C dx : Addr} {m m' : Mac} {H : Hp} (h : MacAt mg p L W m H) (hm : mg "Machine" = some (.ref C)) (hc : m'.cells = m.cells) (hw : m'.written = m.written) :
    MacAt mg p L W m' (upd H p (.ins C dx (macF L W m'))) ∧ ButM p L W H (upd H p (.ins C dx (macF L W m'))) := by
  obtain ⟨n1, n2⟩ := h.ne_p
  refine ⟨⟨⟨C, dx, hm, upd_same⟩, ?_, ?_, h.ne⟩, fun b o n _ _ e => by rw [upd_ne n]; exact e⟩
  · rw [upd_ne n1, hc]
    exact h.cells
  · rw [upd_ne n2, hw]
    exact h.written
theorem MacAt.putL {mg : Str → Option Value} {p L W : Addr} {m m' : Mac} {H : Hp} (h : MacAt mg p L W m H) (e : macF L W m' = macF L W m) (hw : m'.written = m.written) :
    MacAt mg p L W m' (upd H L (.lst (m'.cells.map V.int))) ∧ ButM p L W H (upd H L (.lst (m'.cells.map V.int))) := by
  obtain ⟨n1, n2⟩ := h.ne_p
  refine ⟨⟨?_, upd_same, ?_, h.ne⟩, fun b o _ n _ x => by rw [upd_ne n]; exact x⟩
  · obtain ⟨C, dx, hm, hp⟩ := h.ins
    refine ⟨C, dx, hm, ?_⟩
    rw [upd_ne (Ne.symm n1), e]
    exact hp
  · rw [upd_ne (Ne.symm h.ne), hw]
    exact h.written
theorem MacAt.putW {mg : Str → Option Value} {p L W : Addr} {m m' : Mac} {H : Hp} (h : MacAt mg p L W m H) (e : macF L W m' = macF L W m) (hc : m'.cells = m.cells) :
    MacAt mg p L W m' (upd H W (.lst (m'.written.map V.int))) ∧ ButM p L W H (upd H W (.lst (m'.written.map V.int))) := by
  obtain ⟨n1, n2⟩ := h.ne_p
  refine ⟨⟨?_, ?_, upd_same, h.ne⟩, fun b o _ _ n x => by rw [upd_ne n]; exact x⟩
  · obtain ⟨C, dx, hm, hp⟩ := h.ins
    refine ⟨C, dx, hm, ?_⟩
    rw [upd_ne (Ne.symm n2), e]
    exact hp
  · rw [upd_ne h.ne, hc]
    exact h.cells
/-! ### what a machine does -/
def leadsM (kind hand : Int) : Bool :=
  if kind = 9 ∨ kind = 13 then decide (decide (hand = 0) = decide (kind = 9)) else if kind = 10 ∨ kind = 14 then decide (decide (hand < 32768) = decide (kind = 10)) else decide (kind = 8)
def Mac.cell (m : Mac) (i : Int) : Int := m.cells.getD i.toNat 0
def Mac.sign (m : Mac) : Int := (m.text.cps.toList.getD m.read 0 : Nat)
def Mac.take (m : Mac) : Mac := if m.read = m.text.length then { m with hand := 0 } else { m with hand := m.sign, read := m.read + 1 }
def Mac.act (m : Mac) (k a : Int) : Mac :=
  if k = 1 then { m with hand := m.cell a }
  else if k = 2 then { m with cells := m.cells.set a.toNat m.hand }
  else if k = 3 then { m with hand := (m.hand + m.cell a) % 65536 }
  else if k = 4 then { m with hand := (m.hand - m.cell a) % 65536 }
  else if k = 5 then { m with hand := a }
  else if k = 6 then { m with hand := m.cell (m.cell a % 4096) }
  else if k = 7 then { m with cells := m.cells.set (m.cell a % 4096).toNat m.hand }
  else if k = 11 then m.take
  else if k = 12 then { m with written := m.written ++ [m.hand] }
  else m
def Mac.step (m : Mac) : Mac :=
  if m.ended then m
  else if m.cell m.place / 4096 = 0 then { m with ended := true }
  else if leadsM (m.cell m.place / 4096) m.hand then { m with place := m.cell m.place % 4096 }
  else ({ m with place := (m.place + 1) % 4096 } : Mac).act (m.cell m.place / 4096) (m.cell m.place % 4096)
theorem Mac.Wf.cell {m : Mac} (h : m.Wf) (i : Int) : isW (m.cell i) := by
  unfold Mac.cell
  rw [List.getD_eq_getElem?_getD]
  cases e : m.cells[i.toNat]? with
  | none => exact ⟨by decide, by decide⟩
  | some c => exact h.cells c (List.mem_of_getElem? e)
theorem Mac.Wf.at {m : Mac} (h : m.Wf) {i : Int} (h0 : 0 ≤ i) (h1 : i ≤ 4095) : atI (m.cells.map V.int) i = some (.int (m.cell i)) := by
  refine atI_int h0 ?_
  have hi : i.toNat < m.cells.length := by rw [h.len]; omega
  unfold Mac.cell
  rw [List.getElem?_map, List.getD_eq_getElem?_getD, List.getElem?_eq_getElem hi]
  rfl
theorem Mac.Wf.set {m : Mac} (h : m.Wf) {c : Int} (hc : isW c) (i : Nat) : ({ m with cells := m.cells.set i c } : Mac).Wf :=
  ⟨by rw [List.length_set]; exact h.len, fun x hx => (List.mem_or_eq_of_mem_set hx).elim (h.cells x) (fun e => e ▸ hc), h.place, h.hand, h.read, h.size, h.text, h.written⟩
theorem Mac.Wf.put {m : Mac} (h : m.Wf) {c : Int} (hc : isW c) : ({ m with hand := c } : Mac).Wf := ⟨h.len, h.cells, h.place, hc, h.read, h.size, h.text, h.written⟩
theorem Mac.Wf.go {m : Mac} (h : m.Wf) {c : Int} (hc : 0 ≤ c ∧ c ≤ 4095) : ({ m with place := c } : Mac).Wf := ⟨h.len, h.cells, hc, h.hand, h.read, h.size, h.text, h.written⟩
theorem Mac.Wf.signW {m : Mac} (h : m.Wf) : isW m.sign := by
  unfold Mac.sign
  rw [List.getD_eq_getElem?_getD]
  cases e : m.text.cps.toList[m.read]? with
  | none => exact ⟨by decide, by decide⟩
  | some c =>
    have := h.text c (List.mem_of_getElem? e)
    constructor <;> simp only [Option.getD_some] <;> omega
theorem Mac.Wf.take {m : Mac} (h : m.Wf) : m.take.Wf := by
  unfold Mac.take
  split
  · exact h.put ⟨by decide, by decide⟩
  · rename_i e
    exact ⟨h.len, h.cells, h.place, h.signW, (by have := h.read; show m.read + 1 ≤ m.text.length; omega), h.size, h.text, h.written⟩
theorem Mac.Wf.act {m : Mac} (h : m.Wf) {k a : Int} (ha : 0 ≤ a ∧ a ≤ 4095) : (m.act k a).Wf := by
  unfold Mac.act
  have hc := h.cell a
  unfold isW at hc
  split
  · exact h.put (h.cell _)
  split
  · exact h.set h.hand _
  split
  · exact h.put ⟨by omega, by omega⟩
  split
  · exact h.put ⟨by omega, by omega⟩
  split
  · exact h.put ⟨by omega, by omega⟩
  split
  · exact h.put (h.cell _)
  split
  · exact h.set h.hand _
  split
  · exact h.take
  split
  · exact ⟨h.len, h.cells, h.place, h.hand, h.read, h.size, h.text, fun x hx => (List.mem_append.mp hx).elim (h.written x) (fun e => by rw [List.mem_singleton.mp e]; exact h.hand)⟩
  · exact h
theorem Mac.Wf.step {m : Mac} (h : m.Wf) : m.step.Wf := by
  unfold Mac.step
  have hc := h.cell m.place
  unfold isW at hc
  have hp := h.place
  split
  · exact h
  split
  · exact ⟨h.len, h.cells, h.place, h.hand, h.read, h.size, h.text, h.written⟩
  split
  · exact h.go ⟨by omega, by omega⟩
  · exact (h.go (c := (m.place + 1) % 4096) ⟨by omega, by omega⟩).act ⟨by omega, by omega⟩
end G
namespace G
open PySem PySem.Spec PyProof.Rows L2
theorem iteFe {c : Bool} {A B : Prop} (hc : c = false) (h : B) : if c = true then A else B := by rw [hc]; exact iteF h
theorem iteTe {c : Bool} {A B : Prop} (hc : c = true) (h : A) : if c = true then A else B := by rw [hc]; exact iteT h
theorem eqI (i j : Int) : decide (V.int i = V.int j) = decide (i = j) := by
  by_cases h : i = j
  · rw [h]; simp
  · have : ¬ V.int i = V.int j := fun e => h (by cases e; rfl)
    simp [h, this]
theorem eqF {i j : Int} (h : ¬ i = j) : decide (V.int i = V.int j) = false := by rw [eqI]; exact decide_eq_false h
theorem eqT {i j : Int} (h : i = j) : decide (V.int i = V.int j) = true := by rw [eqI]; exact decide_eq_true h
theorem eqBl (a b : Bool) : decide (V.bl a = V.bl b) = decide (a = b) := by cases a <;> cases b <;> rfl
theorem ixN_int {n : Nat} {k : Int} (h0 : 0 ≤ k) (h1 : k < n) : ixN n k = some k.toNat := by
  unfold ixN
  rw [if_pos h0, if_pos h1]
theorem putF_hand {L W : Addr} {m : Mac} {v : Int} : putF "own_hand" (.int v) (macF L W m) = macF L W { m with hand := v } := rfl
theorem putF_place {L W : Addr} {m : Mac} {v : Int} : putF "own_place" (.int v) (macF L W m) = macF L W { m with place := v } := rfl
theorem putF_read {L W : Addr} {m : Mac} : putF "own_read" (.int ((m.read : Int) + 1)) (macF L W m) = macF L W { m with read := m.read + 1 } := rfl
theorem putF_ended {L W : Addr} {m : Mac} {v : Bool} : putF "own_ended" (.bl v) (macF L W m) = macF L W { m with ended := v } := rfl
theorem Mac.Wf.signAt {m : Mac} (h : m.Wf) (hr : m.read ≠ m.text.length) : m.text.cps.toList[m.read]? = some (m.text.cps.toList.getD m.read 0) := by
  have hl : m.read < m.text.cps.toList.length := by
    have := h.read
    have e : m.text.cps.toList.length = m.text.length := Array.length_toList
    omega
  rw [List.getD_eq_getElem?_getD, List.getElem?_eq_getElem hl]
  rfl
end G
namespace G
open PySem PySem.Spec PyProof.Rows L2
def cellsB (xs : List V) : Bool := decide ((xs.length : Int) ≤ 4096) && xs.all fun v => btwV v 0 65535
/-- a machine at first -/
def mac0 (ws : List Int) (pl : Int) (x : Str) : Mac := ⟨ws ++ List.replicate (4096 - ws.length) 0, pl, 0, x, 0, [], false⟩
theorem cellsB_of {ws : List Int} (h : ∀ c ∈ ws, isW c) (hl : ws.length ≤ 4096) : cellsB (ws.map V.int) = true := by
  unfold cellsB
  simp only [Bool.and_eq_true, decide_eq_true_eq, List.length_map]
  refine ⟨by omega, List.all_eq_true.mpr fun v hv => ?_⟩
  obtain ⟨w, hw, rfl⟩ := List.mem_map.mp hv
  exact btwV_int (h w hw)
theorem mac0_wf {ws : List Int} {pl : Int} {x : Str} (h : ∀ c ∈ ws, isW c) (hl : ws.length ≤ 4096) (hp : 0 ≤ pl ∧ pl ≤ 4095) (hz : x.length ≤ sizeLine) (hx : ∀ c ∈ x.cps.toList, c ≤ 65535) : (mac0 ws pl x).Wf :=
  ⟨by show (ws ++ List.replicate (4096 - ws.length) 0).length = 4096; rw [List.length_append, List.length_replicate]; omega,
   fun c hc => (List.mem_append.mp hc).elim (h c) fun e => by rw [List.eq_of_mem_replicate e]; exact ⟨by decide, by decide⟩, hp, ⟨Int.le_refl 0, by show (0 : Int) ≤ 65535; decide⟩, Nat.zero_le _, hz, hx, fun c hc => absurd hc List.not_mem_nil⟩
end G
namespace G
open PySem PySem.Spec PyProof.Rows L2
/-- so many steps, where it ends fewer -/
def Mac.run : Nat → Mac → Mac
  | 0, m => m
  | n + 1, m => if m.ended then m else Mac.run n m.step
def Mac.did : Nat → Mac → Nat
  | 0, _ => 0
  | n + 1, m => if m.ended then 0 else Mac.did n m.step + 1
theorem Mac.Wf.run : ∀ {n : Nat} {m : Mac}, m.Wf → (Mac.run n m).Wf
  | 0, _, h => h
  | n + 1, m, h => by
    unfold Mac.run
    split
    · exact h
    · exact Mac.Wf.run h.step
end G
namespace G
open PySem PySem.Spec PyProof.Rows L2
theorem Mac.take_w (m : Mac) : m.take.written = m.written := by
  unfold Mac.take
  split <;> rfl
theorem Mac.act_w (m : Mac) (k a : Int) : (m.act k a).written.length ≤ m.written.length + 1 := by
  unfold Mac.act
  repeat' split
  all_goals first
    | exact Nat.le_succ _
    | (rw [Mac.take_w]; exact Nat.le_succ _)
    | (rw [List.length_append]; exact Nat.le_refl _)
theorem Mac.step_w (m : Mac) : m.step.written.length ≤ m.written.length + 1 := by
  unfold Mac.step
  split
  · exact Nat.le_succ _
  split
  · exact Nat.le_succ _
  split
  · exact Nat.le_succ _
  · exact Mac.act_w _ _ _
theorem Mac.step_end {m : Mac} (h : m.ended = true) : m.step = m := by
  unfold Mac.step
  rw [if_pos h]
theorem Mac.run_end {n : Nat} {m : Mac} (h : m.ended = true) : Mac.run n m = m ∧ Mac.did n m = 0 := by
  cases n with
  | zero => exact ⟨rfl, rfl⟩
  | succ n => exact ⟨by unfold Mac.run; rw [if_pos h], by unfold Mac.did; rw [if_pos h]⟩
theorem Mac.run_on {n : Nat} {m : Mac} (h : m.ended = false) : Mac.run (n + 1) m = Mac.run n m.step ∧ Mac.did (n + 1) m = Mac.did n m.step + 1 := by
  have h2 : ¬ m.ended = true := by rw [h]; exact Bool.false_ne_true
  exact ⟨by rw [Mac.run, if_neg h2], by rw [Mac.did, if_neg h2]⟩
end G
namespace G
open PySem PySem.Spec PyProof.Rows L2
/-! ### pots: a list of one number that the takes change -/
def PotAt (p : Addr) (H : Hp) : Prop := ∃ x : Int, H p = some (.lst [.int x])
theorem PotAt.same {p : Addr} {H H' : Hp} (h : PotAt p H) (s : Same H H') : PotAt p H' := let ⟨x, h⟩ := h; ⟨x, s _ _ h⟩
theorem PotAt.up {p q : Addr} {H : Hp} {o : HO} (h : PotAt p H) (f : H q = none) : PotAt p (upd H q o) := h.same fun _ _ e => upd_old e f
theorem PotAt.ne {p q : Addr} {H : Hp} (h : PotAt p H) (f : H q = none) : q ≠ p := fun e => by
  obtain ⟨_, h⟩ := h
  rw [← e, f] at h
  cases h
theorem PotAt.oth {p q : Addr} {H : Hp} {o : HO} (h : PotAt p H) (f : q ≠ p) : PotAt p (L2.upd H q o) := let ⟨x, h⟩ := h; ⟨x, by rw [upd_ne (Ne.symm f)]; exact h⟩
/-- new at H' , but for p -/
theorem But.free {p q : Addr} {H H' : Hp} (b : But p H H') (n : q ≠ p) (f : H' q = none) : H q = none := by
  cases e : H q with
  | none => rfl
  | some o => rw [b _ _ n e] at f; cases f
/-! ### a state of a law: the same machine, in lists -/
structure StAt (s L W : Addr) (m : Mac) (H : Hp) : Prop where
  st : H s = some (.lst [.ref L, .int m.place, .int m.hand, .int (m.read : Int), .str m.text, .ref W, .bl m.ended])
  cells : H L = some (.lst (m.cells.map V.int))
  written : H W = some (.lst (m.written.map V.int))
  ne : L ≠ W
  sL : s ≠ L
  sW : s ≠ W
theorem StAt.same {s L W : Addr} {m : Mac} {H H' : Hp} (h : StAt s L W m H) (q : Same H H') : StAt s L W m H' := ⟨q _ _ h.st, q _ _ h.cells, q _ _ h.written, h.ne, h.sL, h.sW⟩
theorem StAt.put {s L W : Addr} {m m' : Mac} {H : Hp} (h : StAt s L W m H) (hc : m'.cells = m.cells) (hw : m'.written = m.written) {o : HO} (e : o = .lst [.ref L, .int m'.place, .int m'.hand, .int (m'.read : Int), .str m'.text, .ref W, .bl m'.ended]) :
    StAt s L W m' (upd H s o) ∧ ButM s L W H (upd H s o) := by
  subst e
  exact ⟨⟨upd_same, by rw [upd_ne (Ne.symm h.sL), hc]; exact h.cells, by rw [upd_ne (Ne.symm h.sW), hw]; exact h.written, h.ne, h.sL, h.sW⟩, fun b o n _ _ x => by rw [upd_ne n]; exact x⟩
theorem StAt.putL {s L W : Addr} {m : Mac} {H : Hp} (h : StAt s L W m H) (cs : List Int) {o : HO} (e : o = .lst (cs.map V.int)) : StAt s L W { m with cells := cs } (upd H L o) ∧ ButM s L W H (upd H L o) := by
  subst e
  exact ⟨⟨by rw [upd_ne h.sL]; exact h.st, upd_same, by rw [upd_ne (Ne.symm h.ne)]; exact h.written, h.ne, h.sL, h.sW⟩, fun b o _ n _ x => by rw [upd_ne n]; exact x⟩
theorem StAt.putW {s L W : Addr} {m : Mac} {H : Hp} (h : StAt s L W m H) (cs : List Int) {o : HO} (e : o = .lst (cs.map V.int)) : StAt s L W { m with written := cs } (upd H W o) ∧ ButM s L W H (upd H W o) := by
  subst e
  exact ⟨⟨by rw [upd_ne h.sW]; exact h.st, by rw [upd_ne h.ne]; exact h.cells, upd_same, h.ne, h.sL, h.sW⟩, fun b o _ _ n x => by rw [upd_ne n]; exact x⟩
theorem sqL_same {K : PySem.W.Frag} {H H' : Hp} {a : Addr} {xs : List V} (e : Same H H') (h : SqL K H a xs) : SqL K H' a xs := by
  rcases h with (h | ⟨o, h⟩) | h
  · exact .inl (.inl (e _ _ h))
  · exact .inl (.inr ⟨o, e _ _ h⟩)
  · exact .inr h
end G
namespace G
open PySem PySem.Spec PyProof.Rows L2
/-- what a machine tells -/
def toldD (m : Mac) : PyData := .list [.int m.place, .int m.hand, .int (m.read : Int), .tuple (m.written.map .int), .bool m.ended]
theorem toldD_fine {m : Mac} (h : m.Wf) (hl : m.written.length ≤ 100000) : fine (toldD m) = true ∧ (toldD m).depth ≤ 60 ∧ (toldD m).bulk ≤ 2 ^ 20 := by
  have e12 : (10 : Nat) ^ 12 = 1000000000000 := by decide
  have hz : sizeLine = 16777216 := by decide
  obtain ⟨p0, p1⟩ := h.place
  obtain ⟨h0, h1⟩ := h.hand
  have h2 := h.read
  have h3 := h.size
  have hw : ∀ n ∈ m.written, n.natAbs < 10 ^ 12 := fun n hn => by
    obtain ⟨a, b⟩ := h.written n hn
    omega
  have h4 := bulkAll_ints m.written
  refine ⟨?_, ?_, ?_⟩
  · simp only [toldD, fine, fineAll, fineAll_ints hw, Bool.and_eq_true, decide_eq_true_eq, and_true]
    refine ⟨by omega, by omega, by omega⟩
  · simp only [toldD, PyData.depth, PyData.depthAll, depthAll_ints]
    decide
  · simp only [toldD, PyData.bulk, PyData.bulkAll]
    have : (2 : Nat) ^ 20 = 1048576 := by decide
    omega
end G
namespace G
open PySem PySem.Spec PyProof.Rows L2
theorem same_but {p : Addr} {H H' H'' : Hp} (s : Same H H') (b : But p H' H'') (f : H p = none) : Same H H'' := fun c o h => b c o (fun e => by rw [e, f] at h; cases h) (s c o h)
/-- one of some numbers -/
theorem pick {xs : List Int} {lo hi k : Int} (h : ∀ x ∈ xs, lo ≤ x ∧ x ≤ hi) (k0 : 0 ≤ k) (k1 : k < xs.length) : ∃ x, atI (xs.map V.int) k = some (.int x) ∧ lo ≤ x ∧ x ≤ hi := by
  have hk : k.toNat < xs.length := by omega
  refine ⟨xs[k.toNat], atI_int k0 ?_, h _ (List.getElem_mem hk)⟩
  rw [List.getElem?_map, List.getElem?_eq_getElem hk]
  rfl
theorem all2 {P : Int → Prop} {a b : Int} (ha : P a) (hb : P b) : ∀ x ∈ [a, b], P x := fun x h => by
  rcases List.mem_cons.mp h with rfl | h
  · exact ha
  · rw [List.mem_singleton.mp h]; exact hb
theorem allC {P : Int → Prop} {a : Int} {xs : List Int} (ha : P a) (h : ∀ x ∈ xs, P x) : ∀ x ∈ a :: xs, P x := fun x hx => (List.mem_cons.mp hx).elim (fun e => e ▸ ha) (h x)
theorem allN {P : Int → Prop} : ∀ x ∈ ([] : List Int), P x := fun _ h => absurd h List.not_mem_nil
/-- a list of words, 4096 of them -/
def WordsAt (l : Addr) (H : Hp) : Prop := ∃ ws : List Int, H l = some (.lst (ws.map V.int)) ∧ ws.length = 4096 ∧ ∀ c ∈ ws, isW c
theorem WordsAt.same {l : Addr} {H H' : Hp} (h : WordsAt l H) (s : Same H H') : WordsAt l H' := let ⟨ws, e, z⟩ := h; ⟨ws, s _ _ e, z⟩
theorem WordsAt.but {l p : Addr} {H H' : Hp} (h : WordsAt l H) (n : l ≠ p) (b : But p H H') : WordsAt l H' := let ⟨ws, e, z⟩ := h; ⟨ws, b _ _ n e, z⟩
/-- a word is put -/
theorem put_in {l : Addr} {H : Hp} {i x : Int} {Q : Hp → Prop} (h : WordsAt l H) (i0 : 0 ≤ i) (i1 : i ≤ 4095) (hx : isW x) (q : ∀ H', WordsAt l H' → But l H H' → Q H') : rSetL (.ref l) (.int i) (.int x) H Q := by
  obtain ⟨ws, e, hl, hw⟩ := h
  refine ⟨l, _, i, _, rfl, rfl, e, ixN_int i0 (by rw [List.length_map, hl]; omega), ?_⟩
  rw [show (ws.map V.int).set i.toNat (V.int x) = (ws.set i.toNat x).map V.int from (List.map_set).symm]
  exact q _ ⟨_, upd_same, by rw [List.length_set]; exact hl, fun c hc => (List.mem_or_eq_of_mem_set hc).elim (hw c) (fun e => e ▸ hx)⟩ But.upd
end G
namespace G
open PySem PySem.Spec PyProof.Rows L2
theorem PotAt.but {p l : Addr} {H H' : Hp} (h : PotAt p H) (n : p ≠ l) (b : But l H H') : PotAt p H' := let ⟨x, h⟩ := h; ⟨x, b _ _ n h⟩
theorem PotAt.butM {p x L W : Addr} {H H' : Hp} (h : PotAt p H) (n : p ≠ x ∧ p ≠ L ∧ p ≠ W) (b : ButM x L W H H') : PotAt p H' := let ⟨y, h⟩ := h; ⟨y, b _ _ n.1 n.2.1 n.2.2 h⟩
theorem same_butM {x L W : Addr} {H H' H'' : Hp} (s : Same H H') (b : ButM x L W H' H'') (f : H x = none ∧ H L = none ∧ H W = none) : Same H H'' := fun c o h =>
  b c o (fun e => by rw [e, f.1] at h; cases h) (fun e => by rw [e, f.2.1] at h; cases h) (fun e => by rw [e, f.2.2] at h; cases h) (s c o h)
/-- a machine and a state with nothing in common -/
structure Apart (x L W s L2 W2 : Addr) : Prop where
  s : s ≠ x ∧ s ≠ L ∧ s ≠ W
  l : L2 ≠ x ∧ L2 ≠ L ∧ L2 ≠ W
  w : W2 ≠ x ∧ W2 ≠ L ∧ W2 ≠ W
theorem StAt.butM {x L W s L2 W2 : Addr} {m : Mac} {H H' : Hp} (h : StAt s L2 W2 m H) (a : Apart x L W s L2 W2) (b : ButM x L W H H') : StAt s L2 W2 m H' :=
  ⟨b _ _ a.s.1 a.s.2.1 a.s.2.2 h.st, b _ _ a.l.1 a.l.2.1 a.l.2.2 h.cells, b _ _ a.w.1 a.w.2.1 a.w.2.2 h.written, h.ne, h.sL, h.sW⟩
theorem MacAt.butS {mg : Str → Option Value} {x L W s L2 W2 : Addr} {m : Mac} {H H' : Hp} (h : MacAt mg x L W m H) (a : Apart x L W s L2 W2) (b : ButM s L2 W2 H H') : MacAt mg x L W m H' :=
  ⟨let ⟨C, dx, e, hp⟩ := h.ins; ⟨C, dx, e, b _ _ (Ne.symm a.s.1) (Ne.symm a.l.1) (Ne.symm a.w.1) hp⟩, b _ _ (Ne.symm a.s.2.1) (Ne.symm a.l.2.1) (Ne.symm a.w.2.1) h.cells, b _ _ (Ne.symm a.s.2.2) (Ne.symm a.l.2.2) (Ne.symm a.w.2.2) h.written, h.ne⟩
theorem zero_words : (List.replicate ((4096 : Int)).toNat [V.int 0]).flatten = (List.replicate 4096 (0 : Int)).map V.int := rep_ints 4096 0
end G
namespace G
open PySem PySem.Spec PyProof.Rows L2
/-! ### what stands in the heap, as a list of things with nothing in common -/
structure Ent where
  adr : List Addr
  ok : Hp → Prop
  here : ∀ {H : Hp}, ok H → ∀ a ∈ adr, ∃ o, H a = some o
  keep : ∀ {H H' : Hp}, ok H → (∀ a ∈ adr, ∀ o, H a = some o → H' a = some o) → ok H'
/-- what is no table of code objects -/
def plainO : HO → Bool
  | .tbl _ => false
  | .ext _ => false
  | _ => true
def adrs (E : List Ent) : List Addr := E.flatMap Ent.adr
structure Has (E : List Ent) (H : Hp) : Prop where
  nd : (adrs E).Nodup
  ok : ∀ e ∈ E, e.ok H
/-- all but some addresses is kept -/
def Keeps (l : List Addr) (H H' : Hp) : Prop := ∀ b o, b ∉ l → H b = some o → H' b = some o
theorem adrs_cons (e : Ent) (E : List Ent) : adrs (e :: E) = e.adr ++ adrs E := List.flatMap_cons
theorem mem_adrs {E : List Ent} {a : Addr} : a ∈ adrs E ↔ ∃ e ∈ E, a ∈ e.adr := List.mem_flatMap
theorem Has.there {E : List Ent} {H : Hp} (h : Has E H) {a : Addr} (ha : a ∈ adrs E) : ∃ o, H a = some o := by
  obtain ⟨e, he, ha⟩ := mem_adrs.mp ha
  exact e.here (h.ok e he) a ha
theorem Has.nil {H : Hp} : Has [] H := ⟨List.nodup_nil, fun _ h => absurd h List.not_mem_nil⟩
theorem Has.tail {e : Ent} {E : List Ent} {H : Hp} (h : Has (e :: E) H) : Has E H :=
  ⟨by have n := h.nd; rw [adrs_cons] at n; exact (List.nodup_append.mp n).2.1, fun x hx => h.ok x (List.mem_cons_of_mem _ hx)⟩
theorem Has.head {e : Ent} {E : List Ent} {H : Hp} (h : Has (e :: E) H) : e.ok H := h.ok e List.mem_cons_self
theorem Has.apart {e : Ent} {E : List Ent} {H : Hp} (h : Has (e :: E) H) {a : Addr} (h1 : a ∈ e.adr) (h2 : a ∈ adrs E) : False := by
  have n := h.nd
  rw [adrs_cons] at n
  exact (List.nodup_append.mp n).2.2 a h1 a h2 rfl
theorem Has.same {E : List Ent} {H H' : Hp} (h : Has E H) (s : Same H H') : Has E H' := ⟨h.nd, fun e he => e.keep (h.ok e he) fun a _ o => s a o⟩
/-- e has become e', nothing else has changed -/
theorem Has.turn {e e' : Ent} {E : List Ent} {H H' : Hp} (h : Has (e :: E) H) (k : Keeps e.adr H H') (ad : e'.adr = e.adr) (ok : e'.ok H') : Has (e' :: E) H' := by
  refine ⟨by rw [adrs_cons, ad, ← adrs_cons]; exact h.nd, fun x hx => ?_⟩
  rcases List.mem_cons.mp hx with rfl | hx
  · exact ok
  · exact x.keep (h.ok x (List.mem_cons_of_mem _ hx)) fun a ha o => k a o fun z => h.apart z (mem_adrs.mpr ⟨x, hx, ha⟩)
/-- a new thing -/
theorem Has.more {e : Ent} {E : List Ent} {H H' : Hp} (h : Has E H) (s : Same H H') (f : ∀ a ∈ e.adr, H a = none) (n : e.adr.Nodup) (ok : e.ok H') : Has (e :: E) H' := by
  refine ⟨?_, fun x hx => ?_⟩
  · rw [adrs_cons]
    refine List.nodup_append.mpr ⟨n, h.nd, fun a h1 b h2 e => ?_⟩
    obtain ⟨o, z⟩ := h.there h2
    rw [← e, f a h1] at z
    cases z
  · rcases List.mem_cons.mp hx with rfl | hx
    · exact ok
    · exact x.keep (h.ok x hx) fun a _ o => s a o
/-- one of the list, ahead -/
inductive Rem (e : Ent) : List Ent → List Ent → Prop where
  | here {E : List Ent} : Rem e (e :: E) E
  | there {x : Ent} {E E' : List Ent} : Rem e E E' → Rem e (x :: E) (x :: E')
theorem Rem.perm {e : Ent} {E E' : List Ent} (r : Rem e E E') : E.Perm (e :: E') := by
  induction r with
  | here => exact .refl _
  | there _ ih => exact (ih.cons _).trans (.swap _ _ _)
theorem Has.perm {E E' : List Ent} {H : Hp} (h : Has E H) (p : E.Perm E') : Has E' H := ⟨(p.flatMap_right Ent.adr).nodup_iff.mp h.nd, fun x hx => h.ok x (p.mem_iff.mpr hx)⟩
theorem Has.rem {e : Ent} {E E' : List Ent} {H : Hp} (h : Has E H) (r : Rem e E E') : Has (e :: E') H := h.perm r.perm
theorem Has.get {e : Ent} {E : List Ent} {H : Hp} (h : Has E H) (m : e ∈ E) : e.ok H := h.ok e m
/-- the end of a list -/
inductive Suf (F : List Ent) : List Ent → Prop where
  | refl : Suf F F
  | cons {x : Ent} {E : List Ent} : Suf F E → Suf F (x :: E)
theorem Has.suf {F E : List Ent} {H : Hp} (h : Has E H) (s : Suf F E) : Has F H := by
  induction s with
  | refl => exact h
  | cons _ ih => exact ih h.tail
/-! ### one object -/
def cel (p : Addr) (o : HO) : Ent := ⟨[p], fun H => H p = some o, fun h a ha => ⟨o, by rw [List.mem_singleton.mp ha]; exact h⟩, fun h k => k p List.mem_cons_self o h⟩
theorem Has.at {p : Addr} {o : HO} {E : List Ent} {H : Hp} (h : Has E H) (m : cel p o ∈ E) : H p = some o := h.ok _ m
theorem Has.new {p : Addr} {o : HO} {E : List Ent} {H : Hp} (h : Has E H) (f : H p = none) : Has (cel p o :: E) (upd H p o) :=
  h.more (same_upd f) (fun a ha => by rw [List.mem_singleton.mp ha]; exact f) (List.nodup_cons.mpr ⟨List.not_mem_nil, List.nodup_nil⟩) upd_same
theorem keeps_upd {p : Addr} {o : HO} {H : Hp} : Keeps [p] H (upd H p o) := fun b u n h => by rw [upd_ne fun e => n (List.mem_singleton.mpr e)]; exact h
theorem Has.put {p : Addr} {o o' : HO} {E : List Ent} {H : Hp} (h : Has (cel p o :: E) H) : Has (cel p o' :: E) (upd H p o') := h.turn keeps_upd rfl upd_same
/-- a list in the heap or of the module: as it stands in a list of things -/
def sqE (K : PySem.W.Frag) (s : Addr) (xs : List V) (t : Bool) : Ent :=
  ⟨if t = true then [s] else [], fun H => SqL K H s xs ∧ (t = true → H s = some (.lst xs) ∨ ∃ o, H s = some (.frz o (.lst xs))) ∧ (t = false → ∀ H', SqL K H' s xs),
   fun {H} h a ha => by
    cases t with
    | true => rw [List.mem_singleton.mp ha]; exact (h.2.1 rfl).elim (fun z => ⟨_, z⟩) fun ⟨_, z⟩ => ⟨_, z⟩
    | false => exact absurd ha List.not_mem_nil,
   fun {H H'} h k => by
    cases t with
    | true =>
      refine ⟨?_, fun _ => ?_, fun z => nomatch z⟩
      · rcases h.1 with (z | ⟨o, z⟩) | z
        · exact .inl (.inl (k s List.mem_cons_self _ z))
        · exact .inl (.inr ⟨o, k s List.mem_cons_self _ z⟩)
        · exact .inr z
      · rcases h.2.1 rfl with z | ⟨o, z⟩
        · exact .inl (k s List.mem_cons_self _ z)
        · exact .inr ⟨o, k s List.mem_cons_self _ z⟩
    | false => exact ⟨h.2.2 rfl H', (fun z => nomatch z), h.2.2⟩⟩
theorem has_sq {K : PySem.W.Frag} {H : Hp} {s : Addr} {xs : List V} (h : SqL K H s xs) : ∃ t, Has [sqE K s xs t] H := by
  rcases h with z | z
  · refine ⟨true, ?_, fun e he => ?_⟩
    · show (([s] : List Addr) ++ []).Nodup
      exact List.nodup_cons.mpr ⟨List.not_mem_nil, List.nodup_nil⟩
    · rw [List.mem_singleton.mp he]
      exact ⟨.inl z, fun _ => z, fun z => nomatch z⟩
  · refine ⟨false, List.nodup_nil, fun e he => ?_⟩
    rw [List.mem_singleton.mp he]
    exact ⟨.inr z, (fun z => nomatch z), fun _ _ => .inr z⟩
theorem Has.sq {K : PySem.W.Frag} {s : Addr} {xs : List V} {t : Bool} {E : List Ent} {H : Hp} (h : Has E H) (m : sqE K s xs t ∈ E) : SqL K H s xs := (h.ok _ m).1

/-! ### the steps of a reading -/
section
variable {σ : L2.St} {H : Hp} {Q : VK} {ta tb tc te : TE} {D : Ends} {K : PySem.W.Frag} {E : List Ent}
theorem g_var {i : Nat} {v : V} (h : σ[i]? = some (some v)) (q : Q v H) : tVar i σ H Q := ⟨v, h, q⟩
instance {i : Nat} {v : V} [a : AtS σ i v] : Lk (tVar i σ H Q) (Q v H) := ⟨fun q => ⟨v, a.h, q⟩⟩
theorem g_C {v : V} (q : Q v H) : tC v σ H Q := q
instance i_g_C {v : V} : Lk (tC v σ H Q) (Q v H) := ⟨g_C⟩
theorem g_op {r : R2} (q : ta σ H fun x H1 => tb σ H1 fun y H2 => r x y H2 Q) : tOp r ta tb σ H Q := q
instance i_g_op {r : R2} : Lk (tOp r ta tb σ H Q) (ta σ H fun x H1 => tb σ H1 fun y H2 => r x y H2 Q) := ⟨g_op⟩
theorem g_un {r : V → Hp → VK → Prop} (q : ta σ H fun x H1 => r x H1 Q) : tUn r ta σ H Q := q
instance i_g_un {r : V → Hp → VK → Prop} : Lk (tUn r ta σ H Q) (ta σ H fun x H1 => r x H1 Q) := ⟨g_un⟩
theorem g_rI {C : Int → Int → Prop} {g : Int → Int → V} {i j : Int} (c : C i j) (q : Q (g i j) H) : rI C g (.int i) (.int j) H Q := ⟨i, j, rfl, rfl, c, q⟩
theorem g_rI0 {g : Int → Int → V} {i j : Int} (q : Q (g i j) H) : rI0 g (.int i) (.int j) H Q := ⟨i, j, rfl, rfl, q⟩
instance i_g_rI0 {g : Int → Int → V} {i j : Int} : Lk (rI0 g (.int i) (.int j) H Q) (Q (g i j) H) := ⟨g_rI0⟩
theorem g_rU {g : Int → V} {i : Int} (q : Q (g i) H) : rU g (.int i) H Q := ⟨i, rfl, q⟩
instance i_g_rU {g : Int → V} {i : Int} : Lk (rU g (.int i) H Q) (Q (g i) H) := ⟨g_rU⟩
theorem g_eqI {i j : Int} (q : Q (.bl (decide (i = j))) H) : rEq (.int i) (.int j) H Q := ⟨rfl, by rw [eqI]; exact q⟩
instance i_g_eqI {i j : Int} : Lk (rEq (.int i) (.int j) H Q) (Q (.bl (decide (i = j))) H) := ⟨g_eqI⟩
theorem g_neI {i j : Int} (q : Q (.bl (!decide (i = j))) H) : rNe (.int i) (.int j) H Q := ⟨rfl, by rw [eqI]; exact q⟩
instance i_g_neI {i j : Int} : Lk (rNe (.int i) (.int j) H Q) (Q (.bl (!decide (i = j))) H) := ⟨g_neI⟩
theorem eqS (x y : Str) : decide (V.str x = V.str y) = decide (x = y) := by
  by_cases h : x = y
  · rw [h]; simp
  · have : ¬ V.str x = V.str y := fun e => h (by cases e; rfl)
    simp [h, this]
theorem g_eqS {x y : Str} (q : Q (.bl (decide (x = y))) H) : rEq (.str x) (.str y) H Q := ⟨rfl, by rw [eqS]; exact q⟩
theorem g_neS {x y : Str} (q : Q (.bl (!decide (x = y))) H) : rNe (.str x) (.str y) H Q := ⟨rfl, by rw [eqS]; exact q⟩
theorem g_eqB {x y : Bool} (q : Q (.bl (decide (x = y))) H) : rEq (.bl x) (.bl y) H Q := ⟨rfl, by rw [eqBl]; exact q⟩
instance i_g_eqB {x y : Bool} : Lk (rEq (.bl x) (.bl y) H Q) (Q (.bl (decide (x = y))) H) := ⟨g_eqB⟩
theorem g_neB {x y : Bool} (q : Q (.bl (!decide (x = y))) H) : rNe (.bl x) (.bl y) H Q := ⟨rfl, by rw [eqBl]; exact q⟩
instance i_g_neB {x y : Bool} : Lk (rNe (.bl x) (.bl y) H Q) (Q (.bl (!decide (x = y))) H) := ⟨g_neB⟩
theorem g_isN (q : ta σ H fun x H1 => Q (.bl (decide (x = .non))) H1) : tIsN ta σ H Q := q
instance i_g_isN : Lk (tIsN ta σ H Q) (ta σ H fun x H1 => Q (.bl (decide (x = .non))) H1) := ⟨g_isN⟩
theorem g_notN (q : ta σ H fun x H1 => Q (.bl (!decide (x = .non))) H1) : tNotN ta σ H Q := q
instance i_g_notN : Lk (tNotN ta σ H Q) (ta σ H fun x H1 => Q (.bl (!decide (x = .non))) H1) := ⟨g_notN⟩
theorem g_isN0 (q : Q (.bl true) H) : Q (.bl (decide (V.non = .non))) H := q
theorem g_B {q : Bool → Hp → Prop} (h : te σ H fun x H1 => ∃ c, x = .bl c ∧ q c H1) : tB te σ H q := h
instance i_g_B {q : Bool → Hp → Prop} : Lk (tB te σ H q) (te σ H fun x H1 => ∃ c, x = .bl c ∧ q c H1) := ⟨g_B⟩
theorem g_T {q : Bool → Hp → Prop} (h : te σ H fun x H1 => ∃ c, x = .bl c ∧ q c H1) : tTest te σ H q := h
instance i_g_T {q : Bool → Hp → Prop} : Lk (tTest te σ H q) (te σ H fun x H1 => ∃ c, x = .bl c ∧ q c H1) := ⟨g_T⟩
theorem g_bl {c : Bool} {q : Bool → Prop} (h : q c) : ∃ d, V.bl c = .bl d ∧ q d := ⟨c, rfl, h⟩
instance i_g_bl {c : Bool} {q : Bool → Prop} : Lk (∃ d, V.bl c = .bl d ∧ q d) (q c) := ⟨g_bl⟩
theorem g_int {c : Int} {q : Int → Prop} (h : q c) : ∃ d, V.int c = .int d ∧ q d := ⟨c, rfl, h⟩
instance i_g_int {c : Int} {q : Int → Prop} : Lk (∃ d, V.int c = .int d ∧ q d) (q c) := ⟨g_int⟩
theorem g_str {c : Str} {q : Str → Prop} (h : q c) : ∃ d, V.str c = .str d ∧ q d := ⟨c, rfl, h⟩
instance i_g_str {c : Str} {q : Str → Prop} : Lk (∃ d, V.str c = .str d ∧ q d) (q c) := ⟨g_str⟩
section
variable {t u : TT} {q : Bool → Hp → Prop}
theorem g_and (h : t σ H fun c H1 => if c = true then u σ H1 q else q false H1) : tAnd t u σ H q := h
instance i_g_and : Lk (tAnd t u σ H q) (t σ H fun c H1 => if c = true then u σ H1 q else q false H1) := ⟨g_and⟩
theorem g_or (h : t σ H fun c H1 => if c = true then q true H1 else u σ H1 q) : tOr t u σ H q := h
instance i_g_or : Lk (tOr t u σ H q) (t σ H fun c H1 => if c = true then q true H1 else u σ H1 q) := ⟨g_or⟩
theorem g_not (h : t σ H fun c H1 => q (!c) H1) : tNot t σ H q := h
instance i_g_not : Lk (tNot t σ H q) (t σ H fun c H1 => q (!c) H1) := ⟨g_not⟩
theorem g_yes (h : q true H) : tYes σ H q := h
instance i_g_yes : Lk (tYes σ H q) (q true H) := ⟨g_yes⟩
end
theorem g_andV (h : ta σ H fun x H1 => ∃ c, x = .bl c ∧ if c = true then tb σ H1 Q else Q (.bl false) H1) : tAndV ta tb σ H Q := h
instance i_g_andV : Lk (tAndV ta tb σ H Q) (ta σ H fun x H1 => ∃ c, x = .bl c ∧ if c = true then tb σ H1 Q else Q (.bl false) H1) := ⟨g_andV⟩
theorem g_orV (h : ta σ H fun x H1 => ∃ c, x = .bl c ∧ if c = true then Q (.bl true) H1 else tb σ H1 Q) : tOrV ta tb σ H Q := h
instance i_g_orV : Lk (tOrV ta tb σ H Q) (ta σ H fun x H1 => ∃ c, x = .bl c ∧ if c = true then Q (.bl true) H1 else tb σ H1 Q) := ⟨g_orV⟩
theorem g_notV (h : ta σ H fun x H1 => ∃ c, x = .bl c ∧ Q (.bl (!c)) H1) : tNotV ta σ H Q := h
instance i_g_notV : Lk (tNotV ta σ H Q) (ta σ H fun x H1 => ∃ c, x = .bl c ∧ Q (.bl (!c)) H1) := ⟨g_notV⟩
theorem g_if {t : TT} (h : t σ H fun c H1 => if c = true then ta σ H1 Q else tb σ H1 Q) : tIf t ta tb σ H Q := h
instance i_g_if {t : TT} : Lk (tIf t ta tb σ H Q) (t σ H fun c H1 => if c = true then ta σ H1 Q else tb σ H1 Q) := ⟨g_if⟩
theorem g_chain {r r' : R2} (h : ta σ H fun x H1 => tb σ H1 fun y H2 => r x y H2 fun z H3 => ∃ k, z = .bl k ∧ (if k = true then tc σ H3 fun w' H4 => r' y w' H4 Q else Q (.bl false) H3)) : tChain r r' ta tb tc σ H Q := h
instance i_g_chain {r r' : R2} : Lk (tChain r r' ta tb tc σ H Q) (ta σ H fun x H1 => tb σ H1 fun y H2 => r x y H2 fun z H3 => ∃ k, z = .bl k ∧ (if k = true then tc σ H3 fun w' H4 => r' y w' H4 Q else Q (.bl false) H3)) := ⟨g_chain⟩
/-- a list, a tuple, made -/
def rTup (xs : List V) (H : Hp) (Q : VK) : Prop := xs.length ≤ sizeLine ∧ ∀ p, H p = none → Q (.ref p) (upd H p (.tup xs))
def rLst (xs : List V) (H : Hp) (Q : VK) : Prop := xs.length ≤ sizeLine ∧ ∀ p, H p = none → Q (.ref p) (upd H p (.lst xs))
theorem g_tup {t : TA} (h : t σ H fun xs H1 => rTup xs H1 Q) : tTup t σ H Q := h
instance i_g_tup {t : TA} : Lk (tTup t σ H Q) (t σ H fun xs H1 => rTup xs H1 Q) := ⟨g_tup⟩
theorem g_lst {t : TA} (h : t σ H fun xs H1 => rLst xs H1 Q) : tLst t σ H Q := h
instance i_g_lst {t : TA} : Lk (tLst t σ H Q) (t σ H fun xs H1 => rLst xs H1 Q) := ⟨g_lst⟩
theorem g_new {o : HO} {q : Addr → Hp → Prop} (h : Has E H) (k : ∀ p H', H p = none → Has (cel p o :: E) H' → q p H') : ∀ p, H p = none → q p (upd H p o) := fun p f => k p _ f (h.new f)
theorem g_rTup {xs : List V} (h : Has E H) (z : xs.length ≤ sizeLine) (k : ∀ p H', H p = none → Has (cel p (.tup xs) :: E) H' → Q (.ref p) H') : rTup xs H Q := ⟨z, fun p f => k p _ f (h.new f)⟩
theorem g_rLst {xs : List V} (h : Has E H) (z : xs.length ≤ sizeLine) (k : ∀ p H', H p = none → Has (cel p (.lst xs) :: E) H' → Q (.ref p) H') : rLst xs H Q := ⟨z, fun p f => k p _ f (h.new f)⟩
theorem g_nil {q : List V → Hp → Prop} (h : q [] H) : tNil σ H q := h
instance i_g_nil {q : List V → Hp → Prop} : Lk (tNil σ H q) (q [] H) := ⟨g_nil⟩
theorem g_cons {tr : TA} {q : List V → Hp → Prop} (h : ta σ H fun x H1 => tr σ H1 fun xs H2 => q (x :: xs) H2) : tCons ta tr σ H q := h
instance i_g_cons {tr : TA} {q : List V → Hp → Prop} : Lk (tCons ta tr σ H q) (ta σ H fun x H1 => tr σ H1 fun xs H2 => q (x :: xs) H2) := ⟨g_cons⟩
theorem g_call {sp : Sp} {X : XK} {t : TA} (h : t σ H fun vs H1 => sp vs H1 Q X) : tCall sp [] X t σ H Q := by
  unfold tCall
  simp only [List.append_nil]
  exact h
instance i_g_call {sp : Sp} {X : XK} {t : TA} : Lk (tCall sp [] X t σ H Q) (t σ H fun vs H1 => sp vs H1 Q X) := ⟨g_call⟩
theorem g_callD {sp : Sp} {d : V} {dvs : List V} {X : XK} {t : TA} (h : t σ H fun vs H1 => sp (vs ++ (d :: dvs)) H1 Q X) : tCall sp (d :: dvs) X t σ H Q := h
instance i_g_callD {sp : Sp} {d : V} {dvs : List V} {X : XK} {t : TA} : Lk (tCall sp (d :: dvs) X t σ H Q) (t σ H fun vs H1 => sp (vs ++ (d :: dvs)) H1 Q X) := ⟨g_callD⟩
theorem g_CB {r : List V → Hp → VK → Prop} {t : TA} (h : t σ H fun vs H1 => r vs H1 Q) : tCB r t σ H Q := h
instance i_g_CB {r : List V → Hp → VK → Prop} {t : TA} : Lk (tCB r t σ H Q) (t σ H fun vs H1 => r vs H1 Q) := ⟨g_CB⟩
theorem g_fld {f : Str} (h : ta σ H fun x H1 => ∃ a C dx fs v, x = .ref a ∧ H1 a = some (.ins C dx fs) ∧ Cls K C ∧ NoAttr K C f ∧ fs.lookup f = some v ∧ Q v H1) : tFld K ta f σ H Q := h
instance i_g_fld {f : Str} : Lk (tFld K ta f σ H Q) (ta σ H fun x H1 => ∃ a C dx fs v, x = .ref a ∧ H1 a = some (.ins C dx fs) ∧ Cls K C ∧ NoAttr K C f ∧ fs.lookup f = some v ∧ Q v H1) := ⟨g_fld⟩
theorem g_bm {T : String} {r : V → List V → Hp → VK → Prop} {t : TA} (h : ta σ H fun x H1 => tyV K T x H1 ∧ t σ H1 fun xs H2 => r x xs H2 Q) : tBM K T r ta t σ H Q := h
instance i_g_bm {T : String} {r : V → List V → Hp → VK → Prop} {t : TA} : Lk (tBM K T r ta t σ H Q) (ta σ H fun x H1 => tyV K T x H1 ∧ t σ H1 fun xs H2 => r x xs H2 Q) := ⟨g_bm⟩
theorem g_bm0 {T : String} {r : V → List V → Hp → VK → Prop} (h : ta σ H fun x H1 => tyV K T x H1 ∧ r x [] H1 Q) : tBM0 K T r ta σ H Q := h
instance i_g_bm0 {T : String} {r : V → List V → Hp → VK → Prop} : Lk (tBM0 K T r ta σ H Q) (ta σ H fun x H1 => tyV K T x H1 ∧ r x [] H1 Q) := ⟨g_bm0⟩
theorem g_tyL {p : Addr} {xs : List V} {R : Prop} (h : Has E H) (m : cel p (.lst xs) ∈ E) (q : R) : tyV K "list" (.ref p) H ∧ R := ⟨.inl ⟨rfl, xs, SqL.of (h.at m)⟩, q⟩
theorem g_tyS {x : Str} {R : Prop} (q : R) : tyV K "str" (.str x) H ∧ R := ⟨rfl, q⟩
instance i_g_tyS {x : Str} {R : Prop} : Lk (tyV K "str" (.str x) H ∧ R) (R) := ⟨g_tyS⟩
theorem g_sl {r : V → Option Int → Option Int → Hp → VK → Prop} {tl th : TO} (h : te σ H fun x H1 => tl σ H1 fun l H2 => th σ H2 fun u H3 => r x l u H3 Q) : tSl r te tl th σ H Q := h
instance i_g_sl {r : V → Option Int → Option Int → Hp → VK → Prop} {tl th : TO} : Lk (tSl r te tl th σ H Q) (te σ H fun x H1 => tl σ H1 fun l H2 => th σ H2 fun u H3 => r x l u H3 Q) := ⟨g_sl⟩
theorem g_noPart {q : Option Int → Hp → Prop} (h : q none H) : tNoPart σ H q := h
instance i_g_noPart {q : Option Int → Hp → Prop} : Lk (tNoPart σ H q) (q none H) := ⟨g_noPart⟩
theorem g_part {q : Option Int → Hp → Prop} (h : te σ H fun x H1 => ∃ i, x = .int i ∧ q (some i) H1) : tPart te σ H q := h
instance i_g_part {q : Option Int → Hp → Prop} : Lk (tPart te σ H q) (te σ H fun x H1 => ∃ i, x = .int i ∧ q (some i) H1) := ⟨g_part⟩
/-- reading -/
theorem g_ixL {p : Addr} {xs : List V} {i : Int} {v : V} (h : Has E H) (m : cel p (.lst xs) ∈ E) (a : atI xs i = some v) (q : Q v H) : rIxL K (.ref p) (.int i) H Q := ⟨p, xs, i, v, rfl, rfl, SqL.of (h.at m), a, q⟩
theorem g_ixT {p : Addr} {xs : List V} {i : Int} {v : V} (h : Has E H) (m : cel p (.tup xs) ∈ E) (a : atI xs i = some v) (q : Q v H) : rIxT K (.ref p) (.int i) H Q := ⟨p, xs, i, v, rfl, rfl, SqT.of (h.at m), a, q⟩
theorem atI_all {xs : List V} {i : Int} (i0 : 0 ≤ i) (i1 : i < xs.length) : ∃ v ∈ xs, atI xs i = some v := by
  have hk : i.toNat < xs.length := by omega
  exact ⟨xs[i.toNat], List.getElem_mem hk, atI_int i0 (List.getElem?_eq_getElem hk)⟩
/-- .. at a place that is not known: any of them -/
theorem g_ixLA {p : Addr} {xs : List V} {i : Int} (h : Has E H) (m : cel p (.lst xs) ∈ E) (i0 : 0 ≤ i) (i1 : i < xs.length) (q : ∀ v ∈ xs, Q v H) : rIxL K (.ref p) (.int i) H Q := by
  obtain ⟨v, hv, a⟩ := atI_all i0 i1
  exact g_ixL h m a (q v hv)
theorem g_ixTA {p : Addr} {xs : List V} {i : Int} (h : Has E H) (m : cel p (.tup xs) ∈ E) (i0 : 0 ≤ i) (i1 : i < xs.length) (q : ∀ v ∈ xs, Q v H) : rIxT K (.ref p) (.int i) H Q := by
  obtain ⟨v, hv, a⟩ := atI_all i0 i1
  exact g_ixT h m a (q v hv)
/-- .. of ints, from one to another -/
theorem g_ixLI {p : Addr} {xs : List V} {i : Int} (lo hi : Int) (h : Has E H) (m : cel p (.lst xs) ∈ E) (i0 : 0 ≤ i) (i1 : i < xs.length) (b : ∀ v ∈ xs, ∃ n, v = .int n ∧ lo ≤ n ∧ n ≤ hi) (q : ∀ n, lo ≤ n → n ≤ hi → Q (.int n) H) : rIxL K (.ref p) (.int i) H Q := by
  refine g_ixLA h m i0 i1 fun v hv => ?_
  obtain ⟨n, rfl, h1, h2⟩ := b v hv
  exact q n h1 h2
theorem allV {P : V → Prop} {v : V} {vs : List V} (h : P v) (t : ∀ x ∈ vs, P x) : ∀ x ∈ v :: vs, P x := fun x hx => (List.mem_cons.mp hx).elim (fun e => e ▸ h) (t x)
theorem allV0 {P : V → Prop} : ∀ x ∈ ([] : List V), P x := fun _ h => absurd h List.not_mem_nil
/-- storing -/
theorem g_setL {p : Addr} {xs : List V} {i : Int} {j : Nat} {v : V} {q : Hp → Prop} {E' : List Ent} (h : Has E H) (m : Rem (cel p (.lst xs)) E E') (a : ixN xs.length i = some j) (k : ∀ H', Has (cel p (.lst (xs.set j v)) :: E') H' → q H') : rSetL (.ref p) (.int i) v H q :=
  ⟨p, xs, i, j, rfl, rfl, (h.rem m).head, a, k _ (h.rem m).put⟩
theorem g_append {p : Addr} {xs : List V} {v : V} {E' : List Ent} (h : Has E H) (m : Rem (cel p (.lst xs)) E E') (z : xs.length < sizeLine) (k : ∀ H', Has (cel p (.lst (xs ++ [v])) :: E') H' → Q .non H') : rAppend (.ref p) [v] H Q :=
  ⟨p, xs, v, rfl, rfl, (h.rem m).head, z, k _ (h.rem m).put⟩
theorem g_cat {p r : Addr} {xs ys : List V} (h : Has E H) (m : cel p (.lst xs) ∈ E) (m' : cel r (.lst ys) ∈ E) (z : xs.length + ys.length ≤ sizeLine) (k : ∀ l H', H l = none → Has (cel l (.lst (xs ++ ys)) :: E) H' → Q (.ref l) H') : rCat (.ref p) (.ref r) H Q :=
  ⟨p, r, xs, ys, rfl, rfl, h.at m, h.at m', z, fun l f => k l _ f (h.new f)⟩
theorem g_catT {p r : Addr} {xs ys : List V} (h : Has E H) (m : cel p (.tup xs) ∈ E) (m' : cel r (.tup ys) ∈ E) (n1 : xs ≠ []) (n2 : ys ≠ []) (z : xs.length + ys.length ≤ sizeLine) (k : ∀ l H', H l = none → Has (cel l (.tup (xs ++ ys)) :: E) H' → Q (.ref l) H') : rCatT K (.ref p) (.ref r) H Q :=
  ⟨p, r, xs, ys, rfl, rfl, SqT.of (h.at m), SqT.of (h.at m'), n1, z, fun e => absurd e n2, fun _ l f => k l _ f (h.new f)⟩
theorem g_rep {p : Addr} {k : Int} {xs : List V} (h : Has E H) (m : cel p (.lst xs) ∈ E) (k0 : -(2 ^ 63) ≤ k) (k1 : k < 2 ^ 63) (z : xs.length * k.toNat ≤ sizeLine) (q : ∀ l H', H l = none → Has (cel l (.lst (List.replicate k.toNat xs).flatten) :: E) H' → Q (.ref l) H') : rRep (.ref p) (.int k) H Q :=
  ⟨p, k, xs, rfl, rfl, h.at m, k0, k1, z, fun l f => q l _ f (h.new f)⟩
/-! ### statements -/
variable {n : L2.St → Hp → Prop} {rt : VK} {bk ct : L2.St → Hp → Prop}
theorem g_next (h : n σ H) : tNext ⟨n, rt, bk, ct⟩ σ H := h
instance i_g_next : Lk (tNext ⟨n, rt, bk, ct⟩ σ H) (n σ H) := ⟨g_next⟩
theorem g_seq {t u : TS} (h : t ⟨u ⟨n, rt, bk, ct⟩, rt, bk, ct⟩ σ H) : tSeq t u ⟨n, rt, bk, ct⟩ σ H := h
instance i_g_seq {t u : TS} : Lk (tSeq t u ⟨n, rt, bk, ct⟩ σ H) (t ⟨u ⟨n, rt, bk, ct⟩, rt, bk, ct⟩ σ H) := ⟨g_seq⟩
theorem g_break (h : bk σ H) : tBreak ⟨n, rt, bk, ct⟩ σ H := h
instance i_g_break : Lk (tBreak ⟨n, rt, bk, ct⟩ σ H) (bk σ H) := ⟨g_break⟩
theorem g_cont (h : ct σ H) : tCont ⟨n, rt, bk, ct⟩ σ H := h
instance i_g_cont : Lk (tCont ⟨n, rt, bk, ct⟩ σ H) (ct σ H) := ⟨g_cont⟩
theorem g_drop (h : te σ H fun _ H1 => n σ H1) : tDrop te ⟨n, rt, bk, ct⟩ σ H := h
instance i_g_drop : Lk (tDrop te ⟨n, rt, bk, ct⟩ σ H) (te σ H fun _ H1 => n σ H1) := ⟨g_drop⟩
theorem g_ret (h : te σ H rt) : tRet te ⟨n, rt, bk, ct⟩ σ H := h
instance i_g_ret : Lk (tRet te ⟨n, rt, bk, ct⟩ σ H) (te σ H rt) := ⟨g_ret⟩
theorem g_retN (h : rt .non H) : tRetN ⟨n, rt, bk, ct⟩ σ H := h
instance i_g_retN : Lk (tRetN ⟨n, rt, bk, ct⟩ σ H) (rt .non H) := ⟨g_retN⟩
theorem g_ifS {c : TT} {t u : TS} (h : c σ H fun b H1 => if b = true then t ⟨n, rt, bk, ct⟩ σ H1 else u ⟨n, rt, bk, ct⟩ σ H1) : tIfS c t u ⟨n, rt, bk, ct⟩ σ H := h
instance i_g_ifS {c : TT} {t u : TS} : Lk (tIfS c t u ⟨n, rt, bk, ct⟩ σ H) (c σ H fun b H1 => if b = true then t ⟨n, rt, bk, ct⟩ σ H1 else u ⟨n, rt, bk, ct⟩ σ H1) := ⟨g_ifS⟩
theorem g_asg {g : TG} (h : te σ H fun x H1 => g x σ H1 n) : tAsg te g ⟨n, rt, bk, ct⟩ σ H := h
instance i_g_asg {g : TG} : Lk (tAsg te g ⟨n, rt, bk, ct⟩ σ H) (te σ H fun x H1 => g x σ H1 n) := ⟨g_asg⟩
theorem g_aug {i : Nat} {ti : TIp} {v : V} (e : σ[i]? = some (some v)) (h : te σ H fun y H1 => ti v y H1 fun z H2 => gName i z σ H2 n) : tAug i te ti ⟨n, rt, bk, ct⟩ σ H := ⟨v, e, h⟩
theorem g_ip {f : Int → Int → Int} {i j : Int} (q : Q (.int (f i j)) H) : ipI f (.int i) (.int j) H Q := ⟨i, j, rfl, rfl, q⟩
instance i_g_ip {f : Int → Int → Int} {i j : Int} : Lk (ipI f (.int i) (.int j) H Q) (Q (.int (f i j)) H) := ⟨g_ip⟩
/-- slots are set -/
inductive SetAt (v : V) : Nat → L2.St → L2.St → Prop where
  | zero {x : Option V} {τ : L2.St} : SetAt v 0 (x :: τ) (some v :: τ)
  | succ {i : Nat} {x : Option V} {τ τ' : L2.St} : SetAt v i τ τ' → SetAt v (i + 1) (x :: τ) (x :: τ')
theorem SetAt.eq {v : V} {i : Nat} {τ τ' : L2.St} (h : SetAt v i τ τ') : τ.set i (some v) = τ' := by
  induction h with
  | zero => rfl
  | succ _ ih => rw [List.set_cons_succ, ih]
theorem g_name {i : Nat} {v : V} {σ' : L2.St} (e : SetAt v i σ σ') (h : n σ' H) : gName i v σ H n := by
  unfold gName
  rw [e.eq]
  exact h
instance {i : Nat} {v : V} {σ' : L2.St} [a : SetS v i σ σ'] : Lk (gName i v σ H n) (n σ' H) := ⟨fun h => by unfold gName; rw [a.h]; exact h⟩
theorem g_par {i j : Nat} {t : TA} (h : t σ H fun vs H1 => ∃ v w, vs = [v, w] ∧ gName i v σ H1 fun σ1 H2 => gName j w σ1 H2 n) : tPar i j t ⟨n, rt, bk, ct⟩ σ H := h
instance i_g_par {i j : Nat} {t : TA} : Lk (tPar i j t ⟨n, rt, bk, ct⟩ σ H) (t σ H fun vs H1 => ∃ v w, vs = [v, w] ∧ gName i v σ H1 fun σ1 H2 => gName j w σ1 H2 n) := ⟨g_par⟩
theorem g_par2 {v w : V} {q : V → V → Prop} (h : q v w) : ∃ v' w', [v, w] = [v', w'] ∧ q v' w' := ⟨v, w, rfl, h⟩
instance i_g_par2 {v w : V} {q : V → V → Prop} : Lk (∃ v' w', [v, w] = [v', w'] ∧ q v' w') (q v w) := ⟨g_par2⟩
theorem g_gTup {k : Nat} {t : TGs} {p : Addr} {xs : List V} (h : Has E H) (m : cel p (.tup xs) ∈ E) (l : xs.length = k) (q : t xs σ H n) : gTup K k t (.ref p) σ H n := ⟨p, xs, rfl, SqT.of (h.at m), l, q⟩
theorem g_gNil (q : n σ H) : gNil [] σ H n := ⟨rfl, q⟩
instance i_g_gNil : Lk (gNil [] σ H n) (n σ H) := ⟨g_gNil⟩
theorem g_gCons {t : TG} {u : TGs} {v : V} {r : List V} (q : t v σ H fun σ' H' => u r σ' H' n) : gCons t u (v :: r) σ H n := ⟨v, r, rfl, q⟩
instance i_g_gCons {t : TG} {u : TGs} {v : V} {r : List V} : Lk (gCons t u (v :: r) σ H n) (t v σ H fun σ' H' => u r σ' H' n) := ⟨g_gCons⟩
theorem g_gSub {s : TSet} {v : V} (q : ta σ H fun o H1 => tb σ H1 fun i H2 => s o i v H2 fun H3 => n σ H3) : gSub ta tb s v σ H n := q
instance i_g_gSub {s : TSet} {v : V} : Lk (gSub ta tb s v σ H n) (ta σ H fun o H1 => tb σ H1 fun i H2 => s o i v H2 fun H3 => n σ H3) := ⟨g_gSub⟩
/-- tests -/
theorem brT {b : Bool} {A B : Prop} (e : b = true) (h : A) : if b = true then A else B := by rw [if_pos e]; exact h
theorem brF {b : Bool} {A B : Prop} (e : b = false) (h : B) : if b = true then A else B := by rw [e]; exact h
theorem br {b : Bool} {A B : Prop} (h1 : b = true → A) (h2 : b = false → B) : if b = true then A else B := by
  cases b with
  | true => exact h1 rfl
  | false => exact h2 rfl
end
end G
namespace G
open PySem PySem.Spec PyProof.Rows L2
/-! ### a list of things within another -/
inductive SubE : List Ent → List Ent → Prop where
  | nil {E : List Ent} : SubE [] E
  | suf {F E : List Ent} : Suf F E → SubE F E
  | cons {e : Ent} {E' E E1 : List Ent} : Rem e E E1 → SubE E' E1 → SubE (e :: E') E
theorem Has.sub {E E' : List Ent} {H : Hp} (h : Has E H) (s : SubE E' E) : Has E' H := by
  induction s with
  | nil => exact .nil
  | suf s => exact h.suf s
  | cons r s' ih =>
    have h2 := h.rem r
    have h3 := ih h2.tail
    refine ⟨?_, fun x hx => ?_⟩
    · rw [adrs_cons]
      refine List.nodup_append.mpr ⟨?_, h3.nd, fun a ha b hb e => ?_⟩
      · have n := h2.nd
        rw [adrs_cons] at n
        exact (List.nodup_append.mp n).1
      · have sub : ∀ {A B : List Ent}, SubE A B → ∀ a, a ∈ adrs A → a ∈ adrs B := by
          intro A B s
          induction s with
          | nil => intro a ha; exact absurd ha List.not_mem_nil
          | suf s =>
            induction s with
            | refl => exact fun _ h => h
            | cons _ ih => intro a ha; rw [adrs_cons]; exact List.mem_append_right _ (ih a ha)
          | cons r _ ih =>
            intro a ha
            rw [adrs_cons] at ha
            have p := (r.perm.flatMap_right Ent.adr).mem_iff (a := a)
            refine p.mpr ?_
            show a ∈ adrs (_ :: _)
            rw [adrs_cons]
            rcases List.mem_append.mp ha with ha | ha
            · exact List.mem_append_left _ ha
            · exact List.mem_append_right _ (ih a ha)
        exact h2.apart ha (by rw [e]; exact sub s' _ hb)
    · rcases List.mem_cons.mp hx with rfl | hx
      · exact h2.head
      · exact h3.ok x hx
/-! ### loops -/
section
variable {σ : L2.St} {H : Hp} {Q : VK} {K : PySem.W.Frag} {E : List Ent} {nx : L2.St → Hp → Prop} {rt : VK} {bk ct : L2.St → Hp → Prop} {g : TG} {tb : TS} {wi : TI}
def rFor (J : It) (g : TG) (tb : TS) (D : Ends) (σ : L2.St) (H : Hp) : Prop := ∃ W : Nat → Nat → L2.St → Hp → Prop, (∃ m, W 0 m σ H) ∧ ∀ i m σ H, W i m σ H →
  (J.stop i H ∧ D.nx σ H) ∨ (J.go i H ∧ ∃ N : L2.St → Hp → Prop, (∀ σ' H', N σ' H' → ∃ m', m' < m ∧ W (i + 1) m' σ' H') ∧ ∀ x H', J.yld i H x H' → g x σ H' fun σ2 H2 => tb { D with nx := N, ct := N, bk := D.nx } σ2 H2)
theorem g_for {D : Ends} (h : wi σ H fun J H1 => rFor J g tb D σ H1) : tFor wi g tb D σ H := h
instance i_g_for {D : Ends} : Lk (tFor wi g tb D σ H) (wi σ H fun J H1 => rFor J g tb D σ H1) := ⟨g_for⟩
theorem g_iRng1 {ta : TA} {R : It → Hp → Prop} (h : ta σ H fun vs H1 => ∃ j : Int, vs = [.int j] ∧ -(2 ^ 62) ≤ j ∧ j < 2 ^ 62 ∧ R (Itr 0 j.toNat) H1) : iRng1 ta σ H R := h
instance i_g_iRng1 {ta : TA} {R : It → Hp → Prop} : Lk (iRng1 ta σ H R) (ta σ H fun vs H1 => ∃ j : Int, vs = [.int j] ∧ -(2 ^ 62) ≤ j ∧ j < 2 ^ 62 ∧ R (Itr 0 j.toNat) H1) := ⟨g_iRng1⟩
theorem g_iRng2 {ta : TA} {R : It → Hp → Prop} (h : ta σ H fun vs H1 => ∃ i j : Int, vs = [.int i, .int j] ∧ (-(2 ^ 62) ≤ i ∧ i < 2 ^ 62 ∧ -(2 ^ 62) ≤ j ∧ j < 2 ^ 62) ∧ R (Itr i (j - i).toNat) H1) : iRng2 ta σ H R := h
instance i_g_iRng2 {ta : TA} {R : It → Hp → Prop} : Lk (iRng2 ta σ H R) (ta σ H fun vs H1 => ∃ i j : Int, vs = [.int i, .int j] ∧ (-(2 ^ 62) ≤ i ∧ i < 2 ^ 62 ∧ -(2 ^ 62) ≤ j ∧ j < 2 ^ 62) ∧ R (Itr i (j - i).toNat) H1) := ⟨g_iRng2⟩
theorem g_rng1 {j : Int} {R : Int → Prop} (b : -(2 ^ 62) ≤ j ∧ j < 2 ^ 62) (q : R j) : ∃ j' : Int, [V.int j] = [.int j'] ∧ -(2 ^ 62) ≤ j' ∧ j' < 2 ^ 62 ∧ R j' := ⟨j, rfl, b.1, b.2, q⟩
theorem g_rng2 {i j : Int} {R : Int → Int → Prop} (b : -(2 ^ 62) ≤ i ∧ i < 2 ^ 62 ∧ -(2 ^ 62) ≤ j ∧ j < 2 ^ 62) (q : R i j) :
    ∃ i' j' : Int, [V.int i, V.int j] = [.int i', .int j'] ∧ (-(2 ^ 62) ≤ i' ∧ i' < 2 ^ 62 ∧ -(2 ^ 62) ≤ j' ∧ j' < 2 ^ 62) ∧ R i' j' := ⟨i, j, rfl, b, q⟩
theorem g_iList {tl : TE} {R : It → Hp → Prop} (h : tl σ H fun x H1 => ∃ a, x = .ref a ∧ (∃ xs, SqL K H1 a xs) ∧ R (Itl K a) H1) : iList K tl σ H R := h
instance i_g_iList {tl : TE} {R : It → Hp → Prop} : Lk (iList K tl σ H R) (tl σ H fun x H1 => ∃ a, x = .ref a ∧ (∃ xs, SqL K H1 a xs) ∧ R (Itl K a) H1) := ⟨g_iList⟩
theorem g_iTup {tl : TE} {R : It → Hp → Prop} (h : tl σ H fun x H1 => ∃ a, x = .ref a ∧ (∃ xs, SqT K H1 a xs) ∧ R (Itt K a) H1) : iTup K tl σ H R := h
instance i_g_iTup {tl : TE} {R : It → Hp → Prop} : Lk (iTup K tl σ H R) (tl σ H fun x H1 => ∃ a, x = .ref a ∧ (∃ xs, SqT K H1 a xs) ∧ R (Itt K a) H1) := ⟨g_iTup⟩
theorem g_inL {a : Addr} {xs : List V} {R : Addr → Prop} (h : Has E H) (m : cel a (.lst xs) ∈ E) (q : R a) : ∃ a', V.ref a = .ref a' ∧ (∃ xs, SqL K H a' xs) ∧ R a' := ⟨a, rfl, ⟨xs, SqL.of (h.at m)⟩, q⟩
theorem g_inQ {a : Addr} {xs : List V} {t : Bool} {R : Addr → Prop} (h : Has E H) (m : sqE K a xs t ∈ E) (q : R a) : ∃ a', V.ref a = .ref a' ∧ (∃ xs, SqL K H a' xs) ∧ R a' := ⟨a, rfl, ⟨xs, h.sq m⟩, q⟩
theorem g_inT {a : Addr} {xs : List V} {R : Addr → Prop} (h : Has E H) (m : cel a (.tup xs) ∈ E) (q : R a) : ∃ a', V.ref a = .ref a' ∧ (∃ xs, SqT K H a' xs) ∧ R a' := ⟨a, rfl, ⟨xs, SqT.of (h.at m)⟩, q⟩
/-- over a range -/
theorem forR {lo : Int} {n : Nat} (Pv : Nat → L2.St → Hp → Prop) (h0 : Pv 0 σ H) (hs : ∀ i σ H, i < n → Pv i σ H → g (.int (lo + i)) σ H fun σ2 H2 => tb ⟨Pv (i + 1), rt, nx, Pv (i + 1)⟩ σ2 H2) (hd : ∀ σ H, Pv n σ H → nx σ H) : rFor (Itr lo n) g tb ⟨nx, rt, bk, ct⟩ σ H :=
  for_range (D := ⟨nx, rt, bk, ct⟩) Pv h0 hs hd
/-- over a list that stands still -/
theorem forL {a : Addr} {xs : List V} (Pv : Nat → L2.St → Hp → Prop) (h0 : Pv 0 σ H) (hl : ∀ i σ H, i ≤ xs.length → Pv i σ H → SqL K H a xs)
    (hs : ∀ i x σ H, xs[i]? = some x → Pv i σ H → g x σ H fun σ2 H2 => tb ⟨Pv (i + 1), rt, nx, Pv (i + 1)⟩ σ2 H2) (hd : ∀ σ H, Pv xs.length σ H → nx σ H) : rFor (Itl K a) g tb ⟨nx, rt, bk, ct⟩ σ H :=
  for_list (D := ⟨nx, rt, bk, ct⟩) Pv h0 hl hs hd
theorem forT {a : Addr} {xs : List V} (Pv : Nat → L2.St → Hp → Prop) (h0 : Pv 0 σ H) (hl : ∀ i σ H, i ≤ xs.length → Pv i σ H → SqT K H a xs)
    (hs : ∀ i x σ H, xs[i]? = some x → Pv i σ H → g x σ H fun σ2 H2 => tb ⟨Pv (i + 1), rt, nx, Pv (i + 1)⟩ σ2 H2) (hd : ∀ σ H, Pv xs.length σ H → nx σ H) : rFor (Itt K a) g tb ⟨nx, rt, bk, ct⟩ σ H :=
  for_tup (D := ⟨nx, rt, bk, ct⟩) Pv h0 hl hs hd
theorem forW {J : It} {n : Nat} {G : Hp → Prop} {Y : Nat → Hp → V → Hp → Prop} (w : Walk J n G Y) (Pv : Nat → L2.St → Hp → Prop) (h0 : Pv 0 σ H) (hG : ∀ i σ H, i ≤ n → Pv i σ H → G H)
    (hs : ∀ i x σ H H', i < n → Pv i σ H → Y i H x H' → g x σ H' fun σ2 H2 => tb ⟨Pv (i + 1), rt, nx, Pv (i + 1)⟩ σ2 H2) (hd : ∀ σ H, Pv n σ H → nx σ H) : rFor J g tb ⟨nx, rt, bk, ct⟩ σ H :=
  for_it (D := ⟨nx, rt, bk, ct⟩) w Pv h0 hG hs hd
/-- while, with a measure -/
theorem whileM {c : TT} (Pv : Nat → L2.St → Hp → Prop) (m : Nat) (h0 : Pv m σ H)
    (hs : ∀ m σ H, Pv m σ H → c σ H fun b H1 => if b = true then tb ⟨fun σ' H' => ∃ m', m' < m ∧ Pv m' σ' H', rt, nx, fun σ' H' => ∃ m', m' < m ∧ Pv m' σ' H'⟩ σ H1 else nx σ H1)
    (mono : ∀ σ H Q Q', (∀ b H1, Q b H1 → Q' b H1) → c σ H Q → c σ H Q') : tWhile c tb ⟨nx, rt, bk, ct⟩ σ H := by
  refine ⟨Pv, ⟨m, h0⟩, fun m σ H p => mono σ H _ _ (fun b H1 q => ?_) (hs m σ H p)⟩
  cases b with
  | true => exact ⟨_, fun _ _ z => z, q⟩
  | false => exact q
/-! ### comprehensions -/
def rLc (J : It) (g : TG) (tt : TT) (te : TE) (vs : List Nat) (σ : L2.St) (H1 : Hp) (Q : VK) : Prop := ∀ D, H1 D = none → ∃ W : Nat → Nat → Hp → Prop, (∃ m, W 0 m (upd H1 D (.lst []))) ∧ ∀ i m H, W i m H →
  (J.stop i H ∧ Q (.ref D) H) ∨ (J.go i H ∧ ∃ Nx : Hp → Prop, (∀ H', Nx H' → ∃ m', m' < m ∧ W (i + 1) m' H') ∧ ∀ x H', J.yld i H x H' → g x (wipe σ vs) H' fun σ2 H2 => wipe σ2 vs = wipe σ vs ∧ tt σ2 H2 fun b H3 =>
    if b = true then te σ2 H3 fun y H4 => ∃ acc, H4 D = some (.lst acc) ∧ acc.length < sizeLine ∧ Nx (upd H4 D (.lst (acc ++ [y]))) else Nx H3)
theorem g_lc {tt : TT} {te : TE} {vs : List Nat} (h : wi σ H fun J H1 => rLc J g tt te vs σ H1 Q) : tLc wi g tt te vs σ H Q := h
instance i_g_lc {tt : TT} {te : TE} {vs : List Nat} : Lk (tLc wi g tt te vs σ H Q) (wi σ H fun J H1 => rLc J g tt te vs σ H1 Q) := ⟨g_lc⟩
/-- what is wanted behind a turn -/
def LcP (D : Addr) (E : List Ent) (P : Nat → List V → Prop) (i : Nat) (H : Hp) : Prop := ∃ acc, acc.length ≤ i ∧ P i acc ∧ Has (cel D (.lst acc) :: E) H
def LcE (D : Addr) (E : List Ent) (P : Nat → List V → Prop) (i : Nat) (y : V) (H4 : Hp) : Prop := ∃ acc, H4 D = some (.lst acc) ∧ acc.length < sizeLine ∧ LcP D E P (i + 1) (upd H4 D (.lst (acc ++ [y])))
theorem lcE {D : Addr} {P : Nat → List V → Prop} {i : Nat} {y : V} {acc : List V} (h : Has (cel D (.lst acc) :: E) H) (l : acc.length ≤ i) (z : i < sizeLine) (p : P (i + 1) (acc ++ [y])) : LcE D E P i y H :=
  ⟨acc, h.head, by omega, acc ++ [y], by rw [List.length_append]; exact Nat.succ_le_succ l, p, h.put⟩
/-- a comprehension: the new list at D, all else as it stood, P of what is made so far -/
theorem lcW {J : It} {n : Nat} {Gs : Hp → Prop} {Y : Nat → Hp → V → Hp → Prop} {tt : TT} {te : TE} {vs : List Nat} (w : Walk J n Gs Y) (P : Nat → List V → Prop) (h : Has E H) (p0 : P 0 []) (hG : ∀ H, Has E H → Gs H)
    (hs : ∀ D i acc x H H', i < n → acc.length ≤ i → P i acc → Has (cel D (.lst acc) :: E) H → Y i H x H' → g x (wipe σ vs) H' fun σ2 H2 => wipe σ2 vs = wipe σ vs ∧ tt σ2 H2 fun b H3 => if b = true then te σ2 H3 fun y H4 => LcE D E P i y H4 else LcP D E P (i + 1) H3)
    (hd : ∀ D acc H', H D = none → acc.length ≤ n → P n acc → Has (cel D (.lst acc) :: E) H' → Q (.ref D) H') : rLc J g tt te vs σ H Q := by
  intro D hD
  exact lc_it w (LcP D E P) ⟨[], Nat.le_refl _, p0, h.new hD⟩ (fun i H' _ ⟨acc, _, _, hh⟩ => hG _ hh.tail) (fun i x H1 H2 hi ⟨acc, hl, p, hh⟩ hy => hs D i acc x H1 H2 hi hl p hh hy) (fun H' ⟨acc, l, p, hh⟩ => hd D acc H' hD l p hh)
end
theorem g_two {a b : V} {q : V → V → Prop} (h : q a b) : ∃ x y, [a, b] = [x, y] ∧ q x y := ⟨a, b, rfl, h⟩
theorem g_twoI {a b : Int} {q : Int → Int → Prop} (h : q a b) : ∃ x y, [V.int a, V.int b] = [.int x, .int y] ∧ q x y := ⟨a, b, rfl, h⟩
theorem g_oneI {a : Int} {q : Int → Prop} (h : q a) : ∃ x, [V.int a] = [.int x] ∧ q x := ⟨a, rfl, h⟩
theorem g_oneS {a : Str} {q : Str → Prop} (h : q a) : ∃ x, [V.str a] = [.str x] ∧ q x := ⟨a, rfl, h⟩
/-! ### a loop over a written list: turn by turn -/
section
variable {σ : L2.St} {H : Hp} {Q : VK} {K : PySem.W.Frag} {E : List Ent} {nx : L2.St → Hp → Prop} {rt : VK} {bk ct : L2.St → Hp → Prop} {g : TG} {tb : TS}
def rUn (S : Hp → Prop) (g : TG) (tb : TS) (nx : L2.St → Hp → Prop) (rt : VK) : List V → L2.St → Hp → Prop
  | [], σ, H => nx σ H
  | x :: r, σ, H => g x σ H fun σ2 H2 => tb ⟨fun σ' H' => S H' ∧ rUn S g tb nx rt r σ' H', rt, nx, fun σ' H' => S H' ∧ rUn S g tb nx rt r σ' H'⟩ σ2 H2
theorem g_unN {S : Hp → Prop} (h : nx σ H) : rUn S g tb nx rt [] σ H := h
instance i_g_unN {S : Hp → Prop} : Lk (rUn S g tb nx rt [] σ H) (nx σ H) := ⟨g_unN⟩
theorem g_unC {S : Hp → Prop} {x : V} {r : List V} (h : g x σ H fun σ2 H2 => tb ⟨fun σ' H' => S H' ∧ rUn S g tb nx rt r σ' H', rt, nx, fun σ' H' => S H' ∧ rUn S g tb nx rt r σ' H'⟩ σ2 H2) : rUn S g tb nx rt (x :: r) σ H := h
instance i_g_unC {S : Hp → Prop} {x : V} {r : List V} : Lk (rUn S g tb nx rt (x :: r) σ H) (g x σ H fun σ2 H2 => tb ⟨fun σ' H' => S H' ∧ rUn S g tb nx rt r σ' H', rt, nx, fun σ' H' => S H' ∧ rUn S g tb nx rt r σ' H'⟩ σ2 H2) := ⟨g_unC⟩
def sqLp (K : PySem.W.Frag) (a : Addr) (xs : List V) (H : Hp) : Prop := SqL K H a xs
def sqTp (K : PySem.W.Frag) (a : Addr) (xs : List V) (H : Hp) : Prop := SqT K H a xs
theorem g_sqLp {a : Addr} {xs : List V} {R : Prop} (h : Has E H) (m : cel a (.lst xs) ∈ E) (q : R) : sqLp K a xs H ∧ R := ⟨SqL.of (h.at m), q⟩
theorem g_sqTp {a : Addr} {xs : List V} {R : Prop} (h : Has E H) (m : cel a (.tup xs) ∈ E) (q : R) : sqTp K a xs H ∧ R := ⟨SqT.of (h.at m), q⟩
theorem unL {a : Addr} {xs : List V} (h : Has E H) (m : cel a (.lst xs) ∈ E) (q : rUn (sqLp K a xs) g tb nx rt xs σ H) : rFor (Itl K a) g tb ⟨nx, rt, bk, ct⟩ σ H := by
  refine forL (fun i σ H => SqL K H a xs ∧ rUn (sqLp K a xs) g tb nx rt (xs.drop i) σ H) ⟨SqL.of (h.at m), q⟩ (fun _ _ _ _ z => z.1) (fun i x σ H hx z => ?_) fun σ H z => by
    have := z.2
    rw [List.drop_length] at this
    exact this
  obtain ⟨hi, rfl⟩ := List.getElem?_eq_some_iff.mp hx
  have q := z.2
  rw [List.drop_eq_getElem_cons hi] at q
  exact q
theorem unT {a : Addr} {xs : List V} (h : Has E H) (m : cel a (.tup xs) ∈ E) (q : rUn (sqTp K a xs) g tb nx rt xs σ H) : rFor (Itt K a) g tb ⟨nx, rt, bk, ct⟩ σ H := by
  refine forT (fun i σ H => SqT K H a xs ∧ rUn (sqTp K a xs) g tb nx rt (xs.drop i) σ H) ⟨SqT.of (h.at m), q⟩ (fun _ _ _ _ z => z.1) (fun i x σ H hx z => ?_) fun σ H z => by
    have := z.2
    rw [List.drop_length] at this
    exact this
  obtain ⟨hi, rfl⟩ := List.getElem?_eq_some_iff.mp hx
  have q := z.2
  rw [List.drop_eq_getElem_cons hi] at q
  exact q
end
end G
namespace G
open PySem PySem.Spec PyProof.Rows L2
/-! ### what the built-in names are, once -/
theorem bt_len : bootBuiltins "len" = some (.builtin "len") := by decide +kernel
theorem bt_max : bootBuiltins "max" = some (.builtin "max") := by decide +kernel
theorem bt_min : bootBuiltins "min" = some (.builtin "min") := by decide +kernel
theorem bt_abs : bootBuiltins "abs" = some (.builtin "abs") := by decide +kernel
theorem bt_repr : bootBuiltins "repr" = some (.builtin "repr") := by decide +kernel
theorem bt_isinstance : bootBuiltins "isinstance" = some (.builtin "isinstance") := by decide +kernel
theorem bt_sum : bootBuiltins "sum" = some (.builtin "sum") := by decide +kernel
theorem bt_all : bootBuiltins "all" = some (.builtin "all") := by decide +kernel
theorem bt_any : bootBuiltins "any" = some (.builtin "any") := by decide +kernel
theorem bt_ord : bootBuiltins "ord" = some (.builtin "ord") := by decide +kernel
theorem bt_chr : bootBuiltins "chr" = some (.builtin "chr") := by decide +kernel
theorem bt_sorted : bootBuiltins "sorted" = some (.builtin "sorted") := by decide +kernel
theorem bt_divmod : bootBuiltins "divmod" = some (.builtin "divmod") := by decide +kernel
theorem bt_int : bootBuiltins "int" = some (.type "int") := by decide +kernel
theorem bt_bool : bootBuiltins "bool" = some (.type "bool") := by decide +kernel
theorem bt_str : bootBuiltins "str" = some (.type "str") := by decide +kernel
theorem bt_list : bootBuiltins "list" = some (.type "list") := by decide +kernel
theorem bt_tuple : bootBuiltins "tuple" = some (.type "tuple") := by decide +kernel
theorem bt_set : bootBuiltins "set" = some (.type "set") := by decide +kernel
theorem bt_dict : bootBuiltins "dict" = some (.type "dict") := by decide +kernel
theorem bt_enumerate : bootBuiltins "enumerate" = some (.type "enumerate") := by decide +kernel
theorem bt_zip : bootBuiltins "zip" = some (.type "zip") := by decide +kernel
theorem bt_range : bootBuiltins "range" = some (.type "range") := by decide +kernel
theorem bt_reversed : bootBuiltins "reversed" = some (.type "reversed") := by decide +kernel
theorem bt_type : bootBuiltins "type" = some (.type "type") := by decide +kernel
theorem bt_map : bootBuiltins "map" = some (.type "map") := by decide +kernel
theorem bt_ValueError : bootBuiltins "ValueError" = some (.type "ValueError") := by decide +kernel
theorem bt_LookupError : bootBuiltins "LookupError" = some (.type "LookupError") := by decide +kernel
theorem bt_TypeError : bootBuiltins "TypeError" = some (.type "TypeError") := by decide +kernel
theorem bt_ArithmeticError : bootBuiltins "ArithmeticError" = some (.type "ArithmeticError") := by decide +kernel
theorem bt_RuntimeError : bootBuiltins "RuntimeError" = some (.type "RuntimeError") := by decide +kernel
end G
namespace G
open PySem PySem.Spec PyProof.Rows L2
/-! ### readings by name: what a rule asks, as one word -/
section
variable {X : Cx} {K : PySem.W.Frag}
def rLenS (K : PySem.W.Frag) : List V → Hp → VK → Prop := fun xs H Q => ∃ p ys, xs = [.ref p] ∧ (SqL K H p ys ∨ SqT K H p ys) ∧ Q (.int ys.length) H
theorem n_len_seq : CallR X (.builtin "len") (rLenS X.K) := call_len_seq
theorem n_lenK (h : X.K = K) : CallR X (.builtin "len") (rLenS K) := call_lenK h
def rLenT : List V → Hp → VK → Prop := fun xs H Q => ∃ z, xs = [.str z] ∧ z.length ≤ sizeLine ∧ Q (.int z.length) H
theorem n_len_str : CallR X (.builtin "len") rLenT := call_len_str
def rAbs : List V → Hp → VK → Prop := fun xs H Q => ∃ i, xs = [.int i] ∧ Q (.int (if i < 0 then -i else i)) H
theorem n_abs : CallR X (.builtin "abs") rAbs := call_abs
def rMax2 : List V → Hp → VK → Prop := fun xs H Q => ∃ i j, xs = [.int i, .int j] ∧ Q (.int (if j > i then j else i)) H
theorem n_max2 (hc : X.calm = true) : CallR X (.builtin "max") rMax2 := call_max2 hc
def rMin2 : List V → Hp → VK → Prop := fun xs H Q => ∃ i j, xs = [.int i, .int j] ∧ Q (.int (if j < i then j else i)) H
theorem n_min2 (hc : X.calm = true) : CallR X (.builtin "min") rMin2 := call_min2 hc
def rInt1 : List V → Hp → VK → Prop := fun xs H Q => (∃ i, xs = [.int i] ∧ Q (.int i) H) ∨ ∃ k, xs = [.bl k] ∧ Q (.int (if k then 1 else 0)) H
theorem n_int1 : CallR X (.type "int") rInt1 := call_int1
def rStrI : List V → Hp → VK → Prop := fun xs H Q => ∃ i, xs = [.int i] ∧ i.natAbs.log2 < 1920 ∧ Q (.str (toString i)) H
theorem n_str_int : CallR X (.type "str") rStrI := call_str_int
def rOrd : List V → Hp → VK → Prop := fun xs H Q => ∃ x, xs = [.str x] ∧ x.length = 1 ∧ Q (.int (x.cps.getD 0 0 : Nat)) H
theorem n_ord : CallR X (.builtin "ord") rOrd := call_ord
def rDivmod : List V → Hp → VK → Prop := fun xs H Q => ∃ i j, xs = [.int i, .int j] ∧ CDiv i j ∧ ∀ p, H p = none → Q (.ref p) (upd H p (.tup [.int (i / j), .int (i % j)]))
theorem n_divmod : CallR X (.builtin "divmod") rDivmod := call_divmod
def rListOf (K : PySem.W.Frag) : List V → Hp → VK → Prop := fun xs H Q => ∃ p ys, xs = [.ref p] ∧ (SqL K H p ys ∨ SqT K H p ys) ∧ ∀ l, H l = none → Q (.ref l) (upd H l (.lst ys))
theorem n_list_of : CallR X (.type "list") (rListOf X.K) := call_list_of
theorem n_list_ofK (h : X.K = K) : CallR X (.type "list") (rListOf K) := by subst h; exact call_list_of
def rTupOf (K : PySem.W.Frag) : List V → Hp → VK → Prop := fun xs H Q => ∃ p ys, xs = [.ref p] ∧ ((SqL K H p ys ∧ ∀ l, H l = none → Q (.ref l) (upd H l (.tup ys))) ∨ (SqT K H p ys ∧ Q (.ref p) H))
theorem n_tuple_of : CallR X (.type "tuple") (rTupOf X.K) := call_tuple_of
theorem n_tuple_ofK (h : X.K = K) : CallR X (.type "tuple") (rTupOf K) := by subst h; exact call_tuple_of
def rJoin (K : PySem.W.Frag) : V → List V → Hp → VK → Prop := fun x xs H Q => ∃ a p, ∃ ys : List Str, x = .str a ∧ xs = [.ref p] ∧ (SqL K H p (ys.map V.str) ∨ SqT K H p (ys.map V.str)) ∧ (ys.map (·.length)).sum + ys.length * a.length ≤ 16777216 ∧ Q (.str (Txt.join a ys)) H
theorem n_join : MtR X "str.join" (rJoin X.K) := mt_join
def rPart : V → List V → Hp → VK → Prop := fun x xs H Q => ∃ a b, x = .str a ∧ xs = [.str b] ∧ (b.length == 0) = false ∧ a.length ≤ sizeLine ∧
    ∀ p, H p = none → Q (.ref p) (upd H p (.tup [.str (Txt.partition a b).1, .str (Txt.partition a b).2.1, .str (Txt.partition a b).2.2]))
theorem n_partition : MtR X "str.partition" rPart := mt_partition
def rSplit : V → List V → Hp → VK → Prop := fun x xs H Q => ∃ a b, x = .str a ∧ xs = [.str b] ∧ (b.length == 0) = false ∧ a.length + 2 ≤ sizeLine ∧ rNewStrs (Txt.split a b) H Q
theorem n_split : MtR X "str.split" rSplit := mt_split
def rStarts : V → List V → Hp → VK → Prop := fun x xs H Q => ∃ a b, x = .str a ∧ xs = [.str b] ∧ Q (.bl (Txt.startswith a b)) H
theorem n_startswith : MtR X "str.startswith" rStarts := mt_startswith
def rTIndex (K : PySem.W.Frag) : V → List V → Hp → VK → Prop := fun x xs H Q => ∃ p, ∃ ys : List Str, ∃ z j, x = .ref p ∧ xs = [.str z] ∧ SqT K H p (ys.map V.str) ∧ ys[j]? = some z ∧ (∀ m, m < j → ys[m]? ≠ some z) ∧ Q (.int (j : Nat)) H
def rCatS : R2 := fun x y H Q => ∃ i j, x = .str i ∧ y = .str j ∧ i.length + j.length ≤ sizeLine ∧ Q (.str (i ++ j)) H
theorem n_add_str : OpR X (binaryOp .Add) rCatS := op_add_str
def rInSign : R2 := fun x y H Q => ∃ (c : Nat) (z : Str), x = .str ⟨#[c]⟩ ∧ y = .str z ∧ Q (.bl (decide (c ∈ z.cps.toList))) H
theorem n_in_sign : OpR X (compareOp .In) rInSign := op_in_sign
theorem n_in_seqK (h : X.K = K) : OpR X (compareOp .In) (rIn K false) := by subst h; exact op_in_seq
end
section
variable {H : Hp} {Q : VK} {K : PySem.W.Frag} {E : List Ent}
theorem g_lenL {p : Addr} {xs : List V} (h : Has E H) (m : cel p (.lst xs) ∈ E) (q : Q (.int xs.length) H) : rLenS K [.ref p] H Q := ⟨p, xs, rfl, .inl (SqL.of (h.at m)), q⟩
theorem g_lenT {p : Addr} {xs : List V} (h : Has E H) (m : cel p (.tup xs) ∈ E) (q : Q (.int xs.length) H) : rLenS K [.ref p] H Q := ⟨p, xs, rfl, .inr (SqT.of (h.at m)), q⟩
theorem g_lenQ {p : Addr} {xs : List V} {t : Bool} (h : Has E H) (m : sqE K p xs t ∈ E) (q : Q (.int xs.length) H) : rLenS K [.ref p] H Q := ⟨p, xs, rfl, .inl (h.sq m), q⟩
theorem g_lenS {x : Str} (z : x.length ≤ sizeLine) (q : Q (.int x.length) H) : rLenT [.str x] H Q := ⟨x, rfl, z, q⟩
theorem g_abs {i : Int} (q : Q (.int (if i < 0 then -i else i)) H) : rAbs [.int i] H Q := ⟨i, rfl, q⟩
instance i_g_abs {i : Int} : Lk (rAbs [.int i] H Q) (Q (.int (if i < 0 then -i else i)) H) := ⟨g_abs⟩
theorem g_max2 {i j : Int} (q : Q (.int (max i j)) H) : rMax2 [.int i, .int j] H Q := ⟨i, j, rfl, by rw [show (if j > i then j else i) = max i j by split <;> omega]; exact q⟩
instance i_g_max2 {i j : Int} : Lk (rMax2 [.int i, .int j] H Q) (Q (.int (max i j)) H) := ⟨g_max2⟩
theorem g_min2 {i j : Int} (q : Q (.int (min i j)) H) : rMin2 [.int i, .int j] H Q := ⟨i, j, rfl, by rw [show (if j < i then j else i) = min i j by split <;> omega]; exact q⟩
instance i_g_min2 {i j : Int} : Lk (rMin2 [.int i, .int j] H Q) (Q (.int (min i j)) H) := ⟨g_min2⟩
theorem g_int1 {i : Int} (q : Q (.int i) H) : rInt1 [.int i] H Q := .inl ⟨i, rfl, q⟩
instance i_g_int1 {i : Int} : Lk (rInt1 [.int i] H Q) (Q (.int i) H) := ⟨g_int1⟩
theorem g_int1b {b : Bool} (q : Q (.int (if b then 1 else 0)) H) : rInt1 [.bl b] H Q := .inr ⟨b, rfl, q⟩
instance i_g_int1b {b : Bool} : Lk (rInt1 [.bl b] H Q) (Q (.int (if b then 1 else 0)) H) := ⟨g_int1b⟩
theorem g_strI {i : Int} (z : i.natAbs.log2 < 1920) (q : Q (.str (toString i)) H) : rStrI [.int i] H Q := ⟨i, rfl, z, q⟩
theorem g_ord {x : Str} (l : x.length = 1) (q : Q (.int (x.cps.getD 0 0 : Nat)) H) : rOrd [.str x] H Q := ⟨x, rfl, l, q⟩
theorem g_listL {p : Addr} {xs : List V} (h : Has E H) (m : cel p (.lst xs) ∈ E) (k : ∀ l H', H l = none → Has (cel l (.lst xs) :: E) H' → Q (.ref l) H') : rListOf K [.ref p] H Q := ⟨p, xs, rfl, .inl (SqL.of (h.at m)), fun l f => k l _ f (h.new f)⟩
theorem g_listT {p : Addr} {xs : List V} (h : Has E H) (m : cel p (.tup xs) ∈ E) (k : ∀ l H', H l = none → Has (cel l (.lst xs) :: E) H' → Q (.ref l) H') : rListOf K [.ref p] H Q := ⟨p, xs, rfl, .inr (SqT.of (h.at m)), fun l f => k l _ f (h.new f)⟩
theorem g_tupL {p : Addr} {xs : List V} (h : Has E H) (m : cel p (.lst xs) ∈ E) (k : ∀ l H', H l = none → Has (cel l (.tup xs) :: E) H' → Q (.ref l) H') : rTupOf K [.ref p] H Q := ⟨p, xs, rfl, .inl ⟨SqL.of (h.at m), fun l f => k l _ f (h.new f)⟩⟩
theorem g_tupT {p : Addr} {xs : List V} (h : Has E H) (m : cel p (.tup xs) ∈ E) (q : Q (.ref p) H) : rTupOf K [.ref p] H Q := ⟨p, xs, rfl, .inr ⟨SqT.of (h.at m), q⟩⟩
theorem g_catS {x y : Str} (z : x.length + y.length ≤ sizeLine) (q : Q (.str (x ++ y)) H) : rCatS (.str x) (.str y) H Q := ⟨x, y, rfl, rfl, z, q⟩
theorem g_starts {x y : Str} (q : Q (.bl (Txt.startswith x y)) H) : rStarts (.str x) [.str y] H Q := ⟨x, y, rfl, rfl, q⟩
instance i_g_starts {x y : Str} : Lk (rStarts (.str x) [.str y] H Q) (Q (.bl (Txt.startswith x y)) H) := ⟨g_starts⟩
theorem g_divmod {i j : Int} (h : Has E H) (c : CDiv i j) (k : ∀ l H', H l = none → Has (cel l (.tup [.int (i / j), .int (i % j)]) :: E) H' → Q (.ref l) H') : rDivmod [.int i, .int j] H Q := ⟨i, j, rfl, c, fun l f => k l _ f (h.new f)⟩
theorem g_partS {x y : Str} (h : Has E H) (n : (y.length == 0) = false) (z : x.length ≤ sizeLine) (k : ∀ l H', H l = none → Has (cel l (.tup [.str (Txt.partition x y).1, .str (Txt.partition x y).2.1, .str (Txt.partition x y).2.2]) :: E) H' → Q (.ref l) H') : rPart (.str x) [.str y] H Q := ⟨x, y, rfl, rfl, n, z, fun l f => k l _ f (h.new f)⟩
theorem g_split {x y : Str} (h : Has E H) (n : (y.length == 0) = false) (z : x.length + 2 ≤ sizeLine) (k : ∀ l H', H l = none → Has (cel l (.lst ((Txt.split x y).map V.str)) :: E) H' → Q (.ref l) H') : rSplit (.str x) [.str y] H Q := ⟨x, y, rfl, rfl, n, z, fun l f => k l _ f (h.new f)⟩
theorem g_joinL {x : Str} {p : Addr} {ys : List Str} (h : Has E H) (m : cel p (.lst (ys.map V.str)) ∈ E) (z : (ys.map (·.length)).sum + ys.length * x.length ≤ 16777216) (q : Q (.str (Txt.join x ys)) H) : rJoin K (.str x) [.ref p] H Q := ⟨x, p, ys, rfl, rfl, .inl (SqL.of (h.at m)), z, q⟩
/-- an index into a written list, a text -/
theorem g_ixS {x : Str} {i : Int} {c : Nat} (z : x.length ≤ sizeLine) (a : atI x.cps.toList i = some c) (q : Q (.str ⟨#[c]⟩) H) : rIxS (.str x) (.int i) H Q := ⟨x, i, c, rfl, rfl, z, a, q⟩
theorem g_ixLQ {p : Addr} {xs : List V} {t : Bool} {i : Int} {v : V} (h : Has E H) (m : sqE K p xs t ∈ E) (a : atI xs i = some v) (q : Q v H) : rIxL K (.ref p) (.int i) H Q := ⟨p, xs, i, v, rfl, rfl, h.sq m, a, q⟩
/-- list slices -/
theorem g_slL {p : Addr} {xs : List V} {lo hi : Option Int} (h : Has E H) (m : cel p (.lst xs) ∈ E) (k : ∀ l H', H l = none → Has (cel l (.lst (cutV xs lo hi)) :: E) H' → Q (.ref l) H') : rSlL K (.ref p) lo hi H Q := ⟨p, xs, rfl, SqL.of (h.at m), fun l f => k l _ f (h.new f)⟩
theorem g_slQ {p : Addr} {xs : List V} {t : Bool} {lo hi : Option Int} (h : Has E H) (m : sqE K p xs t ∈ E) (k : ∀ l H', H l = none → Has (cel l (.lst (cutV xs lo hi)) :: E) H' → Q (.ref l) H') : rSlL K (.ref p) lo hi H Q := ⟨p, xs, rfl, h.sq m, fun l f => k l _ f (h.new f)⟩
end
end G
namespace G
open PySem PySem.Spec PyProof.Rows L2
section
variable {H : Hp} {Q : VK} {K : PySem.W.Frag} {E : List Ent}
def Fine (d : PyData) : Prop := fine d = true ∧ d.depth ≤ 60 ∧ d.bulk ≤ 2 ^ 20
theorem g_repr {x : V} {d : PyData} (hd : Dp K H x d) (f : Fine d) (q : Q (.str d.shown) H) : rReprF K [x] H Q := ⟨x, d, rfl, hd, f, q⟩
theorem fineI {i : Int} (h : i.natAbs < 10 ^ 12) : Fine (.int i) := ⟨by simp only [fine, decide_eq_true_eq]; exact h, by simp only [PyData.depth]; decide, by simp only [PyData.bulk]; decide⟩
theorem fineB (b : Bool) : Fine (.bool b) := ⟨rfl, by simp only [PyData.depth]; decide, by simp only [PyData.bulk]; decide⟩
theorem fineN : Fine .none := ⟨rfl, by decide, by decide⟩
theorem g_methD0 {C : Addr} {m : Str} {sp : Sp} {X : XK} {ta : TE} {d : V} {σ : L2.St} (h : ta σ H fun x H1 => ∃ a dx fs, x = .ref a ∧ H1 a = some (.ins C dx fs) ∧ fs.lookup m = none ∧ sp [x, d] H1 Q X) : tMeth C m sp [d] X ta tNil σ H Q := h
instance i_g_methD0 {C : Addr} {m : Str} {sp : Sp} {X : XK} {ta : TE} {d : V} {σ : L2.St} : Lk (tMeth C m sp [d] X ta tNil σ H Q) (ta σ H fun x H1 => ∃ a dx fs, x = .ref a ∧ H1 a = some (.ins C dx fs) ∧ fs.lookup m = none ∧ sp [x, d] H1 Q X) := ⟨g_methD0⟩
end
end G
namespace G
open PySem PySem.Spec PyProof.Rows L2
/-! ### things of this program and of its laws -/
/-- what stands at one place -/
def one (p : Addr) (φ : HO → Prop) : Ent := ⟨[p], fun H => ∃ o, φ o ∧ H p = some o, fun h a ha => by
    obtain ⟨o, _, h⟩ := h
    exact ⟨o, by rw [List.mem_singleton.mp ha]; exact h⟩, fun h k => let ⟨o, f, h⟩ := h; ⟨o, f, k p List.mem_cons_self o h⟩⟩
/-- a pot: a list of one int -/
def pot (p : Addr) : Ent := one p fun o => ∃ x : Int, o = .lst [.int x]
/-- a pen: a list of three ints -/
def pen (p : Addr) : Ent := one p fun o => ∃ x y z : Int, o = .lst [.int x, .int y, .int z]
theorem pot_ok {p : Addr} {H : Hp} (h : (pot p).ok H) : PotAt p H := let ⟨_, ⟨x, e⟩, h⟩ := h; ⟨x, by rw [h, e]⟩
theorem pot_mk {p : Addr} {H : Hp} (h : PotAt p H) : (pot p).ok H := let ⟨x, h⟩ := h; ⟨_, ⟨x, rfl⟩, h⟩
theorem pen_ok {p : Addr} {H : Hp} (h : (pen p).ok H) : PenAt p H := let ⟨_, ⟨x, y, z, e⟩, h⟩ := h; ⟨x, y, z, by rw [h, e]⟩
theorem pen_mk {p : Addr} {H : Hp} (h : PenAt p H) : (pen p).ok H := let ⟨x, y, z, h⟩ := h; ⟨_, ⟨x, y, z, rfl⟩, h⟩
theorem keeps_but {p : Addr} {H H' : Hp} (b : But p H H') : Keeps [p] H H' := fun c o n h => b c o (fun e => n (List.mem_singleton.mpr e)) h
theorem Has.turnPot {p : Addr} {E : List Ent} {H H' : Hp} (h : Has (pot p :: E) H) (b : But p H H') (q : PotAt p H') : Has (G.pot p :: E) H' := h.turn (e := G.pot p) (keeps_but b) rfl (pot_mk q)
theorem Has.turnPen {p : Addr} {E : List Ent} {H H' : Hp} (h : Has (pen p :: E) H) (b : But p H H') (q : PenAt p H') : Has (G.pen p :: E) H' := h.turn (e := G.pen p) (keeps_but b) rfl (pen_mk q)
theorem Has.mkPot {p : Addr} {E : List Ent} {H : Hp} {x : Int} (h : Has (cel p (.lst [.int x]) :: E) H) : Has (G.pot p :: E) H := h.turn (fun _ _ _ z => z) rfl (pot_mk ⟨x, h.head⟩)
theorem Has.mkPen {p : Addr} {E : List Ent} {H : Hp} {x y z : Int} (h : Has (cel p (.lst [.int x, .int y, .int z]) :: E) H) : Has (G.pen p :: E) H := h.turn (fun _ _ _ z => z) rfl (pen_mk ⟨x, y, z, h.head⟩)
theorem keeps_butM {p L W : Addr} {H H' : Hp} (b : ButM p L W H H') : Keeps [p, L, W] H H' := fun c o n h => b c o (fun e => n (by simp [e])) (fun e => n (by simp [e])) (fun e => n (by simp [e])) h
/-- a machine of the program -/
def mac (mg : Str → Option Value) (p L W : Addr) (m : Mac) : Ent := ⟨[p, L, W], MacAt mg p L W m, fun h a ha => by
    obtain ⟨C, dx, _, hp⟩ := h.ins
    simp only [List.mem_cons, List.not_mem_nil, or_false] at ha
    rcases ha with rfl | rfl | rfl
    · exact ⟨_, hp⟩
    · exact ⟨_, h.cells⟩
    · exact ⟨_, h.written⟩, fun h k => ⟨let ⟨C, dx, e, hp⟩ := h.ins; ⟨C, dx, e, k _ (by simp) _ hp⟩, k _ (by simp) _ h.cells, k _ (by simp) _ h.written, h.ne⟩⟩
/-- a machine of a law: a list -/
def lst (s L W : Addr) (m : Mac) : Ent := ⟨[s, L, W], StAt s L W m, fun h a ha => by
    simp only [List.mem_cons, List.not_mem_nil, or_false] at ha
    rcases ha with rfl | rfl | rfl
    · exact ⟨_, h.st⟩
    · exact ⟨_, h.cells⟩
    · exact ⟨_, h.written⟩, fun h k => ⟨k _ (by simp) _ h.st, k _ (by simp) _ h.cells, k _ (by simp) _ h.written, h.ne, h.sL, h.sW⟩⟩
theorem Has.turnMac {mg : Str → Option Value} {p L W : Addr} {m m' : Mac} {E : List Ent} {H H' : Hp} (h : Has (mac mg p L W m :: E) H) (b : ButM p L W H H') (q : MacAt mg p L W m' H') : Has (G.mac mg p L W m' :: E) H' := h.turn (keeps_butM b) rfl q
theorem Has.turnLst {s L W : Addr} {m m' : Mac} {E : List Ent} {H H' : Hp} (h : Has (lst s L W m :: E) H) (b : ButM s L W H H') (q : StAt s L W m' H') : Has (G.lst s L W m' :: E) H' := h.turn (keeps_butM b) rfl q
theorem nd3 {a b c : Addr} (h1 : a ≠ b) (h2 : a ≠ c) (h3 : b ≠ c) : [a, b, c].Nodup := by
  refine List.nodup_cons.mpr ⟨?_, List.nodup_cons.mpr ⟨?_, List.nodup_cons.mpr ⟨List.not_mem_nil, List.nodup_nil⟩⟩⟩
  · simp [h1, h2]
  · simp [h3]
theorem Has.newMac {mg : Str → Option Value} {p L W : Addr} {m : Mac} {E : List Ent} {H H' : Hp} (h : Has E H) (s : Same H H') (f : H p = none) (fL : H L = none) (fW : H W = none) (q : MacAt mg p L W m H') : Has (G.mac mg p L W m :: E) H' :=
  h.more s (fun a ha => by
    have ha : a ∈ [p, L, W] := ha
    simp only [List.mem_cons, List.not_mem_nil, or_false] at ha
    rcases ha with rfl | rfl | rfl <;> assumption) (nd3 (Ne.symm q.ne_p.1) (Ne.symm q.ne_p.2) q.ne) q
theorem Has.newLst {s L W : Addr} {m : Mac} {E : List Ent} {H H' : Hp} (h : Has E H) (k : Same H H') (f : H s = none) (fL : H L = none) (fW : H W = none) (q : StAt s L W m H') : Has (G.lst s L W m :: E) H' :=
  h.more k (fun a ha => by
    have ha : a ∈ [s, L, W] := ha
    simp only [List.mem_cons, List.not_mem_nil, or_false] at ha
    rcases ha with rfl | rfl | rfl <;> assumption) (nd3 q.sL q.sW q.ne) q
theorem Has.newCel {p : Addr} {o : HO} {E : List Ent} {H H' : Hp} (h : Has E H) (s : Same H H') (f : H p = none) (q : H' p = some o) : Has (cel p o :: E) H' :=
  h.more s (fun a ha => by rw [List.mem_singleton.mp ha]; exact f) (List.nodup_cons.mpr ⟨List.not_mem_nil, List.nodup_nil⟩) q
end G
namespace G
open PySem PySem.Spec PyProof.Rows L2
/-! ### machines: their fields, their methods -/
section
variable {mg : Str → Option Value} {E : List Ent} {H : Hp} {K : PySem.W.Frag} {p L W C : Addr} {m : Mac} {f : Str} {v : V}
theorem Has.ofMac (h : MacAt mg p L W m H) : Has [mac mg p L W m] H := ⟨by
    show ([p, L, W] ++ []).Nodup
    exact nd3 (Ne.symm h.ne_p.1) (Ne.symm h.ne_p.2) h.ne, fun e he => by rw [List.mem_singleton.mp he]; exact h⟩
theorem g_fldM {Q : VK} (h : Has E H) (r : mac mg p L W m ∈ E) (kC : mg "Machine" = some (.ref C)) (cl : Cls K C) (n : NoAttr K C f) (l : (macF L W m).lookup f = some v) (q : Q v H) :
    ∃ a C dx fs v, V.ref p = .ref a ∧ H a = some (.ins C dx fs) ∧ Cls K C ∧ NoAttr K C f ∧ fs.lookup f = some v ∧ Q v H := by
  obtain ⟨dx, hp⟩ := MacAt.insC (h.get r) kC
  exact ⟨p, C, dx, _, v, rfl, hp, cl, n, l, q⟩
theorem g_methM {R : Prop} (h : Has E H) (r : mac mg p L W m ∈ E) (kC : mg "Machine" = some (.ref C)) (l : (macF L W m).lookup f = none) (q : R) : ∃ a dx fs, V.ref p = .ref a ∧ H a = some (.ins C dx fs) ∧ fs.lookup f = none ∧ R := by
  obtain ⟨dx, hp⟩ := MacAt.insC (h.get r) kC
  exact ⟨p, dx, _, rfl, hp, l, q⟩
end
theorem g_meth {C : Addr} {m : Str} {sp : Sp} {X : XK} {ta : TE} {t : TA} {σ : L2.St} {H : Hp} {Q : VK} (h : ta σ H fun x H1 => ∃ a dx fs, x = .ref a ∧ H1 a = some (.ins C dx fs) ∧ fs.lookup m = none ∧ t σ H1 fun vs H2 => sp (x :: vs) H2 Q X) : tMeth C m sp [] X ta t σ H Q := by
  unfold tMeth
  simp only [List.append_nil]
  exact h
instance i_g_meth {C : Addr} {m : Str} {sp : Sp} {X : XK} {ta : TE} {t : TA} {σ : L2.St} {H : Hp} {Q : VK} : Lk (tMeth C m sp [] X ta t σ H Q) (ta σ H fun x H1 => ∃ a dx fs, x = .ref a ∧ H1 a = some (.ins C dx fs) ∧ fs.lookup m = none ∧ t σ H1 fun vs H2 => sp (x :: vs) H2 Q X) := ⟨g_meth⟩
theorem g_methK {C : Addr} {m : Str} {n : Nat} {sp : Sp} {gV : List V → List V → List V} {X : XK} {ta : TE} {tk : TA} {σ : L2.St} {H : Hp} {Q : VK} (h : ta σ H fun x H1 => ∃ a dx fs, x = .ref a ∧ H1 a = some (.ins C dx fs) ∧ fs.lookup m = none ∧
    tk σ H1 fun zs H2 => zs.length = n ∧ sp (gV [x] zs) H2 Q X) : tMethK C m n sp gV X ta tk σ H Q := h
instance i_g_methK {C : Addr} {m : Str} {n : Nat} {sp : Sp} {gV : List V → List V → List V} {X : XK} {ta : TE} {tk : TA} {σ : L2.St} {H : Hp} {Q : VK} : Lk (tMethK C m n sp gV X ta tk σ H Q) (ta σ H fun x H1 => ∃ a dx fs, x = .ref a ∧ H1 a = some (.ins C dx fs) ∧ fs.lookup m = none ∧
    tk σ H1 fun zs H2 => zs.length = n ∧ sp (gV [x] zs) H2 Q X) := ⟨g_methK⟩
theorem g_slS {x : Str} {lo hi : Option Int} {H : Hp} {Q : VK} (z : x.length ≤ sizeLine) (q : Q (.str (cutS x lo hi)) H) : rSlS (.str x) lo hi H Q := ⟨x, rfl, z, q⟩
/-- the signs that are left -/
def Mac.left (m : Mac) : Str := cutS m.text (some (m.read : Int)) none
def standsB (m n : Mac) : Bool := (decide (m.place = n.place) && (decide (m.hand = n.hand) && decide (m.left = n.left))) && decide (m.cells = n.cells)
def eqB (m n : Mac) : Bool := standsB m n && (decide (m.written = n.written) && decide (m.ended = n.ended))
theorem eqvAll_ints : ∀ xs ys : List Int, PyData.eqvAll (xs.map .int) (ys.map .int) = decide (xs = ys)
  | [], [] => by simp [PyData.eqvAll]
  | [], _ :: _ => by simp [PyData.eqvAll]
  | _ :: _, [] => by simp [PyData.eqvAll]
  | x :: xs, y :: ys => by
    rw [List.map_cons, List.map_cons, PyData.eqvAll, eqvAll_ints xs ys]
    simp only [PyData.eqv]
    by_cases h : x = y <;> by_cases h2 : xs = ys <;> simp [h, h2]
theorem eqv_ints (xs ys : List Int) : PyData.eqv (.list (xs.map .int)) (.list (ys.map .int)) = decide (xs = ys) := by rw [PyData.eqv, eqvAll_ints]
theorem eqv_tints (xs ys : List Int) : PyData.eqv (.tuple (xs.map .int)) (.tuple (ys.map .int)) = decide (xs = ys) := by rw [PyData.eqv, eqvAll_ints]
theorem eqv_str (x y : Str) : PyData.eqv (.str x) (.str y) = decide (x = y) := by
  rw [PyData.eqv]
  by_cases h : x = y <;> simp [h]
theorem eqv_int (x y : Int) : PyData.eqv (.int x) (.int y) = decide (x = y) := by
  rw [PyData.eqv]
  by_cases h : x = y <;> simp [h]
theorem strOk_of {x : Str} (h : ∀ c ∈ x.cps.toList, c ≤ 65535) : PyData.strOk x = true := by
  unfold PyData.strOk
  rw [Array.all_eq_true]
  intro i hi
  have := h x.cps[i] (by simp)
  exact decide_eq_true (by omega)
theorem mem_cutS {x : Str} {lo hi : Option Int} {c : Nat} (h : c ∈ (cutS x lo hi).cps.toList) : c ∈ x.cps.toList := by
  unfold cutS at h
  exact List.mem_of_mem_drop (List.mem_of_mem_take h)
theorem Mac.Wf.leftOk {m : Mac} (h : m.Wf) : PyData.strOk m.left = true := strOk_of fun c hc => h.text c (mem_cutS hc)
theorem g_eqD {K : PySem.W.Frag} {x y : V} {d e : PyData} {H : Hp} {Q : VK} (hd : Dp K H x d) (he : Dp K H y e) (sd : SeqAt.shaped d = true) (se : SeqAt.shaped e = true) (q : Q (.bl (PyData.eqv d e)) H) : rEqD K x y H Q := ⟨d, e, hd, he, sd, se, q⟩
theorem g_neD {K : PySem.W.Frag} {x y : V} {d e : PyData} {H : Hp} {Q : VK} (hd : Dp K H x d) (he : Dp K H y e) (sd : SeqAt.shaped d = true) (se : SeqAt.shaped e = true) (q : Q (.bl (!PyData.eqv d e)) H) : rNeD K x y H Q := ⟨d, e, hd, he, sd, se, q⟩
theorem dp_intsE {K : PySem.W.Frag} {H : Hp} {a : Addr} {ns : List Int} {E : List Ent} (h : Has E H) (m : cel a (.lst (ns.map V.int)) ∈ E) : Dp K H (.ref a) (.list (ns.map .int)) := dp_ints (h.at m)
theorem dpT_intsE {K : PySem.W.Frag} {H : Hp} {a : Addr} {ns : List Int} {E : List Ent} (h : Has E H) (m : cel a (.tup (ns.map V.int)) ∈ E) : Dp K H (.ref a) (.tuple (ns.map .int)) := dpT_ints (SqT.of (h.at m))
theorem dp_lstE {K : PySem.W.Frag} {H : Hp} {a : Addr} {xs : List V} {ds : List PyData} {E : List Ent} (h : Has E H) (m : cel a (.lst xs) ∈ E) (d : DpAll K H xs ds) : Dp K H (.ref a) (.list ds) := .lst (SqL.of (h.at m)) d
theorem dp_tupE {K : PySem.W.Frag} {H : Hp} {a : Addr} {xs : List V} {ds : List PyData} {E : List Ent} (h : Has E H) (m : cel a (.tup xs) ∈ E) (d : DpAll K H xs ds) : Dp K H (.ref a) (.tuple ds) := .tup (SqT.of (h.at m)) d
theorem dp_cellsE {K : PySem.W.Frag} {mg : Str → Option Value} {H : Hp} {p L W : Addr} {m : Mac} {E : List Ent} (h : Has E H) (r : mac mg p L W m ∈ E) : Dp K H (.ref L) (.list (m.cells.map .int)) := dp_ints (h.get r).cells
theorem dp_writtenE {K : PySem.W.Frag} {mg : Str → Option Value} {H : Hp} {p L W : Addr} {m : Mac} {E : List Ent} (h : Has E H) (r : mac mg p L W m ∈ E) : Dp K H (.ref W) (.list (m.written.map .int)) := dp_ints (h.get r).written
end G
namespace G
open PySem PySem.Spec PyProof.Rows L2
theorem lay_nil : PyData.canLayAll0 [] = true := rfl
theorem lay_cons {x : PyData} {xs : List PyData} (h : PyData.canLay0 x = true) (t : PyData.canLayAll0 xs = true) : PyData.canLayAll0 (x :: xs) = true := by simp only [PyData.canLayAll0, h, t, Bool.and_self]
theorem lay_tup {xs : List PyData} (t : PyData.canLayAll0 xs = true) : PyData.canLay0 (.tuple xs) = true := by simpa only [PyData.canLay0] using t
theorem lay_lst {xs : List PyData} (t : PyData.canLayAll0 xs = true) : PyData.canLay0 (.list xs) = true := by simpa only [PyData.canLay0] using t
theorem lay_left {m : Mac} (h : m.Wf) : PyData.canLay0 (.str m.left) = true := by simpa only [PyData.canLay0] using h.leftOk
theorem lay_str {x : Str} (h : PyData.strOk x = true) : PyData.canLay0 (.str x) = true := by simpa only [PyData.canLay0] using h
end G
namespace G
open PySem PySem.Spec PyProof.Rows L2
/-- a thing that has come to be somewhere where nothing was -/
theorem Has.newThere {p : Addr} {o : HO} {E : List Ent} {H : Hp} (h : Has E H) (e : H p = some o) (f : p ∉ adrs E) : Has (cel p o :: E) H := by
  refine ⟨?_, fun x hx => ?_⟩
  · rw [adrs_cons]
    exact List.nodup_append.mpr ⟨List.nodup_cons.mpr ⟨List.not_mem_nil, List.nodup_nil⟩, h.nd, fun a h1 b h2 e => f (by rw [← List.mem_singleton.mp h1, e]; exact h2)⟩
  · rcases List.mem_cons.mp hx with rfl | hx
    · exact e
    · exact h.ok x hx
/-! ### making an instance -/
def rMake (C : Addr) (sp : Sp) (gV : List V → List V → List V) (X : XK) (vs zs : List V) (H : Hp) (Q : VK) : Prop :=
  ∀ x dx, H x = none → H dx = none → dx ≠ x → sp (gV (.ref x :: vs) zs) (upd (upd H dx (.own x)) x (.ins C dx [])) (fun v H3 => v = .non ∧ Q (.ref x) H3) X
theorem g_makeK {C : Addr} {n m : Nat} {sp : Sp} {gV : List V → List V → List V} {X : XK} {t tk : TA} {σ : L2.St} {H : Hp} {Q : VK} (h : t σ H fun vs H1 => tk σ H1 fun zs H2 => (vs.length = n ∧ zs.length = m) ∧ rMake C sp gV X vs zs H2 Q) : tMakeK C n m sp gV X t tk σ H Q := by
  have mono : ∀ (vs zs : List V) (H2 : Hp), ((vs.length = n ∧ zs.length = m) ∧ rMake C sp gV X vs zs H2 Q) = (vs.length = n ∧ zs.length = m ∧ ∀ x dx, H2 x = none → H2 dx = none → dx ≠ x → sp (gV (.ref x :: vs) zs) (upd (upd H2 dx (.own x)) x (.ins C dx [])) (fun v H3 => v = .non ∧ Q (.ref x) H3) X) := fun vs zs H2 => propext and_assoc
  simp only [mono] at h
  exact h
instance i_g_makeK {C : Addr} {n m : Nat} {sp : Sp} {gV : List V → List V → List V} {X : XK} {t tk : TA} {σ : L2.St} {H : Hp} {Q : VK} : Lk (tMakeK C n m sp gV X t tk σ H Q) (t σ H fun vs H1 => tk σ H1 fun zs H2 => (vs.length = n ∧ zs.length = m) ∧ rMake C sp gV X vs zs H2 Q) := ⟨g_makeK⟩
theorem g_lens {n m : Nat} {vs zs : List V} {R : Prop} (l1 : vs.length = n) (l2 : zs.length = m) (q : R) : (vs.length = n ∧ zs.length = m) ∧ R := ⟨⟨l1, l2⟩, q⟩
/-- values that are ints -/
inductive Ints : List V → List Int → Prop where
  | map (ws : List Int) : Ints (ws.map V.int) ws
  | nil : Ints [] []
  | cons {i : Int} {vs : List V} {ws : List Int} : Ints vs ws → Ints (.int i :: vs) (i :: ws)
theorem Ints.eq {vs : List V} {ws : List Int} (h : Ints vs ws) : vs = ws.map V.int := by
  induction h with
  | map => rfl
  | nil => rfl
  | cons _ ih => rw [ih]; rfl
/-- a machine made of words, a place, a text -/
theorem rMake_mac {mg : Str → Option Value} {K : PySem.W.Frag} {C : Addr} {sp : Sp} {gV : List V → List V → List V} {X : XK} {vs zs : List V} {E : List Ent} {H : Hp} {Q : VK} {t : Addr} {us : List V} {ws : List Int} {pl : Int} {x : Str} (h : Has E H)
    (r : cel t (.tup us) ∈ E) (iv : Ints us ws)
    (s : ∀ p H2 Q2, ∀ dx, H2 p = some (.ins C dx []) → SqT K H2 t (ws.map V.int) → (∀ H' L W, H2 L = none → H2 W = none → MacAt mg p L W (mac0 ws pl x) H' → (∀ b o, b ≠ p → H2 b = some o → H' b = some o) → Q2 .non H') → sp (gV (.ref p :: vs) zs) H2 Q2 X)
    (q : ∀ p L W H', Has (mac mg p L W (mac0 ws pl x) :: E) H' → Q (.ref p) H') : rMake C sp gV X vs zs H Q := by
  intro p dx fp fd ne
  have k1 : ∀ b o, H b = some o → upd (upd H dx (.own p)) p (.ins C dx []) b = some o := fun b o e => by
    rw [upd_ne (fun z => by rw [z, fp] at e; cases e), upd_ne (fun z => by rw [z, fd] at e; cases e)]
    exact e
  refine s p _ _ dx upd_same (SqT.of (by rw [← iv.eq]; exact k1 _ _ (h.at r))) fun H' L W fL fW hm k => ⟨rfl, ?_⟩
  have s1 : Same H H' := fun b o e => k b o (fun z => by rw [z, fp] at e; cases e) (k1 b o e)
  have fr : ∀ a, upd (upd H dx (.own p)) p (.ins C dx []) a = none → H a = none := fun a e => by
    cases z : H a with
    | none => rfl
    | some o => rw [k1 a o z] at e; cases e
  exact q p L W H' (h.newMac s1 fp (fr L fL) (fr W fW) hm)
end G
namespace G
theorem words_nil : ∀ c ∈ ([] : List Int), isW c := fun _ h => absurd h List.not_mem_nil
theorem words_cons {a : Int} {ws : List Int} (h : 0 ≤ a ∧ a ≤ 65535) (t : ∀ c ∈ ws, isW c) : ∀ c ∈ a :: ws, isW c := fun c hc => (List.mem_cons.mp hc).elim (fun e => e ▸ h) (t c)
end G
namespace G
open PySem PySem.Spec PyProof.Rows L2
/-- a machine in order, with so many words written at most -/
structure MacB (m : Mac) (b : Nat) : Prop where
  wf : m.Wf
  wl : m.written.length ≤ b
theorem Mac.run_w (n : Nat) (m : Mac) : (Mac.run n m).written.length ≤ m.written.length + n := by
  induction n generalizing m with
  | zero => exact Nat.le_refl _
  | succ n ih =>
    unfold Mac.run
    split
    · omega
    · have h1 := ih m.step
      have h2 := Mac.step_w m
      omega
theorem MacB.run {m : Mac} {b n : Nat} (h : MacB m b) : MacB (Mac.run n m) (b + n) := ⟨h.wf.run, by have := Mac.run_w n m; have := h.wl; omega⟩
theorem MacB.step {m : Mac} {b : Nat} (h : MacB m b) : MacB m.step (b + 1) := ⟨h.wf.step, by have := Mac.step_w m; have := h.wl; omega⟩
theorem MacB.mac0 {ws : List Int} {pl : Int} {x : Str} (h : ∀ c ∈ ws, isW c) (hl : ws.length ≤ 4096) (hp : 0 ≤ pl ∧ pl ≤ 4095) (hz : x.length ≤ 1000) (hx : ∀ c ∈ x.cps.toList, c ≤ 65535) : MacB (mac0 ws pl x) 0 :=
  ⟨mac0_wf h hl hp (Nat.le_trans hz (by decide)) hx, Nat.le_refl _⟩
theorem sl_mil {n : Nat} (h : n ≤ 1000000) : n < sizeLine := Nat.lt_of_le_of_lt h (by decide)
theorem g_len1 {n : Nat} {zs : List V} {R : Prop} (l : zs.length = n) (q : R) : zs.length = n ∧ R := ⟨l, q⟩
end G
namespace G
theorem standsB_self (m : Mac) : standsB m m = true := by simp [standsB]
theorem eqB_self (m : Mac) : eqB m m = true := by simp [eqB, standsB_self]
end G
namespace G
theorem Mac.did_le (n : Nat) (m : Mac) : Mac.did n m ≤ n := by
  induction n generalizing m with
  | zero => exact Nat.le_refl _
  | succ n ih =>
    unfold Mac.did
    split
    · omega
    · have := ih m.step
      omega
theorem fineDid (n : Nat) (m : Mac) (h : n ≤ 1000000) : Fine (.int (Mac.did n m : Nat)) := fineI (by have := Mac.did_le n m; have e : (10 : Nat) ^ 12 = 1000000000000 := (by decide); omega)
end G
namespace G
open PySem PySem.Spec PyProof.Rows L2
/-! ### the parts of machines -/
section
variable {mg : Str → Option Value} {E : List Ent} {H : Hp} {Q : VK} {K : PySem.W.Frag} {p L W s : Addr} {m : Mac}
theorem g_lenW (h : Has E H) (r : mac mg p L W m ∈ E) (q : Q (.int m.written.length) H) : rLenS K [.ref W] H Q := ⟨W, m.written.map V.int, rfl, .inl (SqL.of (h.get r).written), by rw [List.length_map]; exact q⟩
theorem g_lenW2 (h : Has E H) (r : lst s L W m ∈ E) (q : Q (.int m.written.length) H) : rLenS K [.ref W] H Q := ⟨W, m.written.map V.int, rfl, .inl (SqL.of (h.get r).written), by rw [List.length_map]; exact q⟩
theorem g_ixM {i : Int} (h : Has E H) (r : mac mg p L W m ∈ E) (wf : m.Wf) (b : 0 ≤ i ∧ i ≤ 4095) (q : Q (.int (m.cell i)) H) : rIxL K (.ref L) (.int i) H Q := ⟨L, _, i, _, rfl, rfl, SqL.of (h.get r).cells, wf.at b.1 b.2, q⟩
theorem g_ixM2 {i : Int} (h : Has E H) (r : lst s L W m ∈ E) (wf : m.Wf) (b : 0 ≤ i ∧ i ≤ 4095) (q : Q (.int (m.cell i)) H) : rIxL K (.ref L) (.int i) H Q := ⟨L, _, i, _, rfl, rfl, SqL.of (h.get r).cells, wf.at b.1 b.2, q⟩
/-- a part of a law's state -/
def stV (L W : Addr) (m : Mac) : List V := [.ref L, .int m.place, .int m.hand, .int (m.read : Int), .str m.text, .ref W, .bl m.ended]
theorem g_ixSt {i : Int} {v : V} (h : Has E H) (r : lst s L W m ∈ E) (a : atI (stV L W m) i = some v) (q : Q v H) : rIxL K (.ref s) (.int i) H Q := ⟨s, _, i, v, rfl, rfl, SqL.of (h.get r).st, a, q⟩
theorem atI_last {xs : List Int} (n : xs ≠ []) : atI (xs.map V.int) (-1) = some (.int (xs.getLast n)) := by
  unfold atI ixN
  have hl : 0 < xs.length := List.length_pos_iff.mpr n
  rw [if_neg (by decide), if_pos (by rw [List.length_map]; omega)]
  have e : ((-1 : Int) + ((xs.map V.int).length : Nat)).toNat = xs.length - 1 := by rw [List.length_map]; omega
  simp only [Option.bind_some]
  first
    | rw [e, List.getElem?_map, List.getElem?_eq_getElem (by omega), List.getLast_eq_getElem]; rfl
    | (rw [List.getElem?_map]; simp [List.getLast_eq_getElem])
theorem g_lastW (h : Has E H) (r : mac mg p L W m ∈ E) (n : m.written ≠ []) (q : Q (.int (m.written.getLast n)) H) : rIxL K (.ref W) (.int (-1)) H Q := ⟨W, _, -1, _, rfl, rfl, SqL.of (h.get r).written, atI_last n, q⟩
theorem g_lastW2 (h : Has E H) (r : lst s L W m ∈ E) (n : m.written ≠ []) (q : Q (.int (m.written.getLast n)) H) : rIxL K (.ref W) (.int (-1)) H Q := ⟨W, _, -1, _, rfl, rfl, SqL.of (h.get r).written, atI_last n, q⟩
/-- copies of a law's state -/
theorem g_listSt (h : Has E H) (r : lst s L W m ∈ E) (k : ∀ l H', H l = none → Has (cel l (.lst (stV L W m)) :: E) H' → Q (.ref l) H') : rListOf K [.ref s] H Q := ⟨s, _, rfl, .inl (SqL.of (h.get r).st), fun l f => k l _ f (h.new f)⟩
theorem g_listStC (h : Has E H) (r : lst s L W m ∈ E) (k : ∀ l H', H l = none → Has (cel l (.lst (m.cells.map V.int)) :: E) H' → Q (.ref l) H') : rListOf K [.ref L] H Q := ⟨L, _, rfl, .inl (SqL.of (h.get r).cells), fun l f => k l _ f (h.new f)⟩
theorem g_listStW (h : Has E H) (r : lst s L W m ∈ E) (k : ∀ l H', H l = none → Has (cel l (.lst (m.written.map V.int)) :: E) H' → Q (.ref l) H') : rListOf K [.ref W] H Q := ⟨W, _, rfl, .inl (SqL.of (h.get r).written), fun l f => k l _ f (h.new f)⟩
theorem Has.mkLst (h : Has (cel s (.lst (stV L W m)) :: cel L (.lst (m.cells.map V.int)) :: cel W (.lst (m.written.map V.int)) :: E) H) : Has (lst s L W m :: E) H := by
  have n := h.nd
  have e : adrs (cel s (.lst (stV L W m)) :: cel L (.lst (m.cells.map V.int)) :: cel W (.lst (m.written.map V.int)) :: E) = s :: L :: W :: adrs E := rfl
  rw [e] at n
  obtain ⟨n1, n⟩ := List.nodup_cons.mp n
  obtain ⟨n2, n3⟩ := List.nodup_cons.mp n
  refine ⟨?_, fun x hx => ?_⟩
  · show (s :: L :: W :: adrs E).Nodup
    exact List.nodup_cons.mpr ⟨n1, List.nodup_cons.mpr ⟨n2, n3⟩⟩
  · rcases List.mem_cons.mp hx with rfl | hx
    · exact ⟨h.head, h.tail.head, h.tail.tail.head, fun e => n2 (by rw [e]; exact List.mem_cons_self), fun e => n1 (by rw [e]; exact List.mem_cons_self), fun e => n1 (by rw [e]; exact List.mem_cons_of_mem _ List.mem_cons_self)⟩
    · exact h.ok x (List.mem_cons_of_mem _ (List.mem_cons_of_mem _ (List.mem_cons_of_mem _ hx)))
end
/-! ### tuples one behind the other -/
def tupsE (ts : List Addr) (vss : List (List V)) : Ent := ⟨ts, fun H => Paired (fun t vs => H t = some (.tup vs)) ts vss, fun {H} h a ha => by
    induction h with
    | nil => exact absurd ha List.not_mem_nil
    | cons r _ ih =>
      rcases List.mem_cons.mp ha with rfl | ha
      · exact ⟨_, r⟩
      · exact ih ha, fun {H H'} h k => by
    induction h with
    | nil => exact .nil
    | cons r _ ih => exact .cons (k _ List.mem_cons_self _ r) (ih fun a ha => k a (List.mem_cons_of_mem _ ha))⟩
theorem Has.noTups {E : List Ent} {H : Hp} (h : Has E H) : Has (tupsE [] [] :: E) H := ⟨h.nd, fun x hx => (List.mem_cons.mp hx).elim (fun e => by rw [e]; exact .nil) (h.ok x)⟩
theorem Paired.snoc {α β : Type} {F : α → β → Prop} {xs : List α} {ys : List β} {a : α} {b : β} (h : Paired F xs ys) (r : F a b) : Paired F (xs ++ [a]) (ys ++ [b]) := by
  induction h with
  | nil => exact .cons r .nil
  | cons q _ ih => exact .cons q ih
theorem Has.addTup {t : Addr} {vs : List V} {ts : List Addr} {vss : List (List V)} {E : List Ent} {H : Hp} (h : Has (cel t (.tup vs) :: tupsE ts vss :: E) H) : Has (tupsE (ts ++ [t]) (vss ++ [vs]) :: E) H := by
  refine ⟨?_, fun x hx => ?_⟩
  · have n := h.nd
    have e : adrs (cel t (.tup vs) :: tupsE ts vss :: E) = t :: (ts ++ adrs E) := rfl
    rw [e] at n
    show ((ts ++ [t]) ++ adrs E).Nodup
    rw [List.append_assoc]
    have p : (t :: (ts ++ adrs E)).Perm (ts ++ ([t] ++ adrs E)) := List.perm_middle.symm
    exact p.nodup_iff.mp n
  · rcases List.mem_cons.mp hx with rfl | hx
    · exact Paired.snoc h.tail.head h.head
    · exact h.ok x (List.mem_cons_of_mem _ (List.mem_cons_of_mem _ hx))
theorem tups_len {ts : List Addr} {vss : List (List V)} {H : Hp} (h : (tupsE ts vss).ok H) : ts.length = vss.length := Paired.length h
/-- their data -/
theorem dpAll_tups {K : PySem.W.Frag} {H : Hp} {ts : List Addr} {vss : List (List V)} {ds : List (List PyData)} (h0 : (tupsE ts vss).ok H) (d : Paired (fun vs d => DpAll K H vs d) vss ds) : DpAll K H (ts.map V.ref) (ds.map .tuple) := by
  have h : Paired (fun t vs => H t = some (.tup vs)) ts vss := h0
  clear h0
  induction h generalizing ds with
  | nil => cases d; exact .nil
  | cons r _ ih =>
    cases d with
    | cons q d => exact .cons (.tup (SqT.of r) q) (ih d)
/-! ### the log of a machine -/
def Mac.wrote (m : Mac) : Option Int := if h : m.written.length < m.step.written.length then some (m.step.written.getLast (fun e => by rw [e] at h; exact absurd h (Nat.not_lt_zero _))) else none
def rowV (m : Mac) : List V := [.int m.place, .int (m.cell m.place), .int m.step.hand, optV m.wrote]
def optD : Option Int → PyData
  | some i => .int i
  | none => .none
def rowD (m : Mac) : List PyData := [.int m.place, .int (m.cell m.place), .int m.step.hand, optD m.wrote]
def Mac.walk : Nat → Mac → List Mac
  | 0, _ => []
  | n + 1, m => if m.ended then [] else m :: Mac.walk n m.step
theorem dp_row {K : PySem.W.Frag} {H : Hp} (m : Mac) : DpAll K H (rowV m) (rowD m) := by
  refine .cons (.int _) (.cons (.int _) (.cons (.int _) (.cons ?_ .nil)))
  cases m.wrote with
  | none => exact .non
  | some i => exact .int i
theorem Mac.walk_wf {x : Mac} : ∀ {n : Nat} {m : Mac}, m.Wf → x ∈ Mac.walk n m → x.Wf
  | 0, _, _, hx => absurd hx List.not_mem_nil
  | n + 1, m, w, hx => by
    unfold Mac.walk at hx
    split at hx
    · exact absurd hx List.not_mem_nil
    · rcases List.mem_cons.mp hx with rfl | hx
      · exact w
      · exact Mac.walk_wf w.step hx
theorem Mac.walk_len : ∀ (n : Nat) (m : Mac), (Mac.walk n m).length ≤ n
  | 0, _ => Nat.le_refl 0
  | n + 1, m => by
    unfold Mac.walk
    split
    · exact Nat.zero_le _
    · exact Nat.succ_le_succ (Mac.walk_len n m.step)
theorem dp_rows {K : PySem.W.Frag} {H : Hp} : ∀ l : List Mac, Paired (fun vs d => DpAll K H vs d) (l.map rowV) (l.map rowD)
  | [] => .nil
  | m :: l => .cons (dp_row m) (dp_rows l)
theorem dp_log {K : PySem.W.Frag} {E : List Ent} {H : Hp} {t : Addr} {ts : List Addr} {l : List Mac} (h : Has E H) (r : cel t (.tup (ts.map V.ref)) ∈ E) (r2 : tupsE ts (l.map rowV) ∈ E) : Dp K H (.ref t) (.tuple ((l.map rowD).map .tuple)) :=
  .tup (SqT.of (h.at r)) (dpAll_tups (h.get r2) (dp_rows l))
theorem fine_isW {i : Int} (h : isW i) : fine (.int i) = true := by
  have := h.1
  have := h.2
  have e : (10 : Nat) ^ 12 = 1000000000000 := by decide
  exact decide_eq_true (by omega)
theorem fine_row {m : Mac} (h : m.Wf) : fine (.tuple (rowD m)) = true := by
  have c : fine (.int m.place) = true := fine_isW ⟨h.place.1, Int.le_trans h.place.2 (by decide)⟩
  have c2 := fine_isW (h.cell m.place)
  have c3 := fine_isW h.step.hand
  have c4 : fine (optD m.wrote) = true := by
    unfold Mac.wrote
    split
    · exact fine_isW (h.step.written _ (List.getLast_mem _))
    · rfl
  unfold rowD
  simp only [fine, fineAll, Bool.and_true] at c c2 c3 c4 ⊢
  rw [c, c2, c3, c4]
  rfl
theorem fineAll_rows : ∀ {l : List Mac}, (∀ x ∈ l, x.Wf) → fineAll ((l.map rowD).map .tuple) = true
  | [], _ => rfl
  | m :: l, h => by
    simp only [List.map_cons, fineAll, Bool.and_eq_true]
    exact ⟨fine_row (h m List.mem_cons_self), fineAll_rows fun x hx => h x (List.mem_cons_of_mem _ hx)⟩
theorem optD_depth (o : Option Int) : (optD o).depth = 0 := by cases o <;> rfl
theorem optD_bulk (o : Option Int) : (optD o).bulk = 0 := by cases o <;> rfl
theorem depth_rows : ∀ l : List Mac, PyData.depthAll ((l.map rowD).map .tuple) ≤ 1
  | [] => Nat.zero_le _
  | m :: l => by
    have := depth_rows l
    simp only [List.map_cons, PyData.depthAll, PyData.depth, rowD, optD_depth]
    omega
theorem bulk_rows : ∀ l : List Mac, PyData.bulkAll ((l.map rowD).map .tuple) = 5 * l.length
  | [] => rfl
  | m :: l => by
    have := bulk_rows l
    simp only [List.map_cons, PyData.bulkAll, PyData.bulk, rowD, optD_bulk, List.length_cons] at this ⊢
    omega
theorem fineLog {m : Mac} {b n : Nat} (h : MacB m b) (l : n ≤ 200000) : Fine (.tuple (((Mac.walk n m).map rowD).map .tuple)) := by
  refine ⟨by simp only [fine]; exact fineAll_rows fun x hx => Mac.walk_wf h.wf hx, ?_, ?_⟩
  · have := depth_rows (Mac.walk n m)
    simp only [PyData.depth]
    omega
  · have := Mac.walk_len n m
    have e : (2 : Nat) ^ 20 = 1048576 := by decide
    simp only [PyData.bulk]
    rw [bulk_rows]
    omega
theorem set_stV0 (L W a : Addr) (m : Mac) : (stV L W m).set (Int.toNat 0) (.ref a) = stV a W m := rfl
theorem set_stV5 (L W a : Addr) (m : Mac) : (stV L W m).set (Int.toNat 5) (.ref a) = stV L a m := rfl
/-- a copy of a state -/
theorem Has.mkLst3 {s L W : Addr} {m : Mac} {E E1 E2 E3 : List Ent} {H : Hp} (h : Has E H) (r1 : Rem (cel s (.lst (stV L W m))) E E1) (r2 : Rem (cel L (.lst (m.cells.map V.int))) E1 E2) (r3 : Rem (cel W (.lst (m.written.map V.int))) E2 E3) : Has (lst s L W m :: E3) H :=
  Has.mkLst (h.perm (r1.perm.trans (List.Perm.cons _ (r2.perm.trans (List.Perm.cons _ r3.perm)))))
theorem Mac.step_ended {m : Mac} (h : m.ended = true) : m.step = m := if_pos h
theorem Mac.run_succ : ∀ (n : Nat) (m : Mac), Mac.run (n + 1) m = (Mac.run n m).step
  | 0, m => by
    show (if m.ended = true then m else m.step) = m.step
    split
    · rename_i h
      exact (Mac.step_ended h).symm
    · rfl
  | n + 1, m => by
    show (if m.ended = true then m else Mac.run (n + 1) m.step) = (if m.ended = true then m else Mac.run n m.step).step
    split
    · rename_i h
      exact (Mac.step_ended h).symm
    · exact Mac.run_succ n m.step
end G
namespace G
open PySem PySem.Spec PyProof.Rows L2
/-! ### machines that stand alike go on alike -/
theorem left_cps {m : Mac} (h : m.Wf) : m.left.cps.toList = m.text.cps.toList.drop m.read := by
  have hl : m.text.cps.toList.length = m.text.length := Array.length_toList
  have hr := h.read
  have e1 : HT.sIx m.text.length 0 (some (m.read : Int)) = m.read := by
    unfold HT.sIx
    simp only
    split <;> omega
  have e2 : HT.sIx m.text.length m.text.length none = m.text.length := rfl
  unfold Mac.left cutS
  rw [e1, e2, List.toList_toArray, List.take_of_length_le]
  rw [List.length_drop, hl]
  omega
structure Alike (m n : Mac) : Prop where
  place : m.place = n.place
  hand : m.hand = n.hand
  left : m.text.cps.toList.drop m.read = n.text.cps.toList.drop n.read
  cells : m.cells = n.cells
  ended : m.ended = n.ended
theorem standsB_of {m n : Mac} (h : standsB m n = true) : m.place = n.place ∧ m.hand = n.hand ∧ m.left = n.left ∧ m.cells = n.cells := by
  unfold standsB at h
  simp only [Bool.and_eq_true, decide_eq_true_eq] at h
  exact ⟨h.1.1, h.1.2.1, h.1.2.2, h.2⟩
theorem Alike.of {m n : Mac} (hm : m.Wf) (hn : n.Wf) (h : standsB m n = true) (e : m.ended = n.ended) : Alike m n := by
  obtain ⟨h1, h2, h3, h4⟩ := standsB_of h
  exact ⟨h1, h2, by rw [← left_cps hm, ← left_cps hn, h3], h4, e⟩
theorem Alike.take {m n : Mac} (hm : m.Wf) (hn : n.Wf) (h : Alike m n) : Alike m.take n.take := by
  have lm : m.text.cps.toList.length = m.text.length := Array.length_toList
  have ln : n.text.cps.toList.length = n.text.length := Array.length_toList
  have rm := hm.read
  have rn := hn.read
  have hl := congrArg List.length h.left
  rw [List.length_drop, List.length_drop, lm, ln] at hl
  unfold Mac.take
  by_cases e : m.read = m.text.length
  · rw [if_pos e, if_pos (by omega)]
    exact ⟨h.place, rfl, h.left, h.cells, h.ended⟩
  · rw [if_neg e, if_neg (by omega)]
    refine ⟨h.place, ?_, ?_, h.cells, h.ended⟩
    · show m.sign = n.sign
      unfold Mac.sign
      have e1 : m.text.cps.toList[m.read]? = n.text.cps.toList[n.read]? := by
        have := congrArg (fun l : List Nat => l[0]?) h.left
        simpa only [List.getElem?_drop, Nat.add_zero] using this
      rw [List.getD_eq_getElem?_getD, List.getD_eq_getElem?_getD, e1]
    · show m.text.cps.toList.drop (m.read + 1) = n.text.cps.toList.drop (n.read + 1)
      have := congrArg (List.drop 1) h.left
      rw [List.drop_drop, List.drop_drop] at this
      exact this
theorem Alike.cell {m n : Mac} (h : Alike m n) (i : Int) : m.cell i = n.cell i := by unfold Mac.cell; rw [h.cells]
theorem Alike.act {m n : Mac} (hm : m.Wf) (hn : n.Wf) (h : Alike m n) (k a : Int) : Alike (m.act k a) (n.act k a) := by
  unfold Mac.act
  by_cases k1 : k = 1
  · rw [if_pos k1, if_pos k1]; exact ⟨h.place, h.cell a, h.left, h.cells, h.ended⟩
  rw [if_neg k1, if_neg k1]
  by_cases k2 : k = 2
  · rw [if_pos k2, if_pos k2]; exact ⟨h.place, h.hand, h.left, by show m.cells.set _ m.hand = n.cells.set _ n.hand; rw [h.cells, h.hand], h.ended⟩
  rw [if_neg k2, if_neg k2]
  by_cases k3 : k = 3
  · rw [if_pos k3, if_pos k3]; exact ⟨h.place, by show (m.hand + m.cell a) % 65536 = (n.hand + n.cell a) % 65536; rw [h.cell, h.hand], h.left, h.cells, h.ended⟩
  rw [if_neg k3, if_neg k3]
  by_cases k4 : k = 4
  · rw [if_pos k4, if_pos k4]; exact ⟨h.place, by show (m.hand - m.cell a) % 65536 = (n.hand - n.cell a) % 65536; rw [h.cell, h.hand], h.left, h.cells, h.ended⟩
  rw [if_neg k4, if_neg k4]
  by_cases k5 : k = 5
  · rw [if_pos k5, if_pos k5]; exact ⟨h.place, rfl, h.left, h.cells, h.ended⟩
  rw [if_neg k5, if_neg k5]
  by_cases k6 : k = 6
  · rw [if_pos k6, if_pos k6]; exact ⟨h.place, by show m.cell (m.cell a % 4096) = n.cell (n.cell a % 4096); rw [h.cell, h.cell], h.left, h.cells, h.ended⟩
  rw [if_neg k6, if_neg k6]
  by_cases k7 : k = 7
  · rw [if_pos k7, if_pos k7]; exact ⟨h.place, h.hand, h.left, by show m.cells.set (m.cell a % 4096).toNat m.hand = n.cells.set (n.cell a % 4096).toNat n.hand; rw [h.cell, h.cells, h.hand], h.ended⟩
  rw [if_neg k7, if_neg k7]
  by_cases k11 : k = 11
  · rw [if_pos k11, if_pos k11]; exact h.take hm hn
  rw [if_neg k11, if_neg k11]
  by_cases k12 : k = 12
  · rw [if_pos k12, if_pos k12]; exact ⟨h.place, h.hand, h.left, h.cells, h.ended⟩
  rw [if_neg k12, if_neg k12]
  exact h
theorem Alike.step {m n : Mac} (hm : m.Wf) (hn : n.Wf) (h : Alike m n) : Alike m.step n.step := by
  unfold Mac.step
  rw [← h.ended]
  by_cases e : m.ended = true
  · rw [if_pos e, if_pos e]; exact h
  rw [if_neg e, if_neg e, ← h.place, ← h.cell, ← h.hand]
  by_cases e1 : m.cell m.place / 4096 = 0
  · rw [if_pos e1, if_pos e1]; exact ⟨rfl, rfl, h.left, h.cells, rfl⟩
  rw [if_neg e1, if_neg e1]
  by_cases e2 : leadsM (m.cell m.place / 4096) m.hand = true
  · rw [if_pos e2, if_pos e2]; exact ⟨rfl, rfl, h.left, h.cells, rfl⟩
  rw [if_neg e2, if_neg e2]
  have hp : 0 ≤ (m.place + 1) % 4096 ∧ (m.place + 1) % 4096 ≤ 4095 := by omega
  have wn : ({ n with place := (m.place + 1) % 4096, hand := m.hand, ended := m.ended } : Mac).Wf := ⟨hn.len, hn.cells, hp, hm.hand, hn.read, hn.size, hn.text, hn.written⟩
  exact Alike.act (hm.go hp) wn ⟨rfl, rfl, h.left, h.cells, rfl⟩ _ _
theorem Alike.run {m n : Mac} (hm : m.Wf) (hn : n.Wf) (h : Alike m n) : ∀ k : Nat, Alike (Mac.run k m) (Mac.run k n)
  | 0 => h
  | k + 1 => by
    rw [Mac.run_succ, Mac.run_succ]
    exact Alike.step hm.run hn.run (Alike.run hm hn h k)
theorem Mac.run_add (m : Mac) (a : Nat) : ∀ b : Nat, Mac.run (a + b) m = Mac.run b (Mac.run a m)
  | 0 => rfl
  | b + 1 => by
    show Mac.run ((a + b) + 1) m = _
    rw [Mac.run_succ, Mac.run_succ, Mac.run_add m a b]
end G
namespace G
open PySem PySem.Spec PyProof.Rows L2
/-! ### the machines walked through, one by one; what they write -/
theorem Mac.walk_get : ∀ {n i : Nat} {m x : Mac}, (Mac.walk n m)[i]? = some x → x = Mac.run i m ∧ x.ended = false ∧ i < n
  | 0, _, _, _, h => nomatch h
  | n + 1, i, m, x, h => by
    unfold Mac.walk at h
    by_cases e : m.ended = true
    · rw [if_pos e] at h
      cases h
    · rw [if_neg e] at h
      have e2 : m.ended = false := by simpa using e
      cases i with
      | zero =>
        cases h
        exact ⟨rfl, e2, Nat.succ_pos _⟩
      | succ i =>
        have h2 : (Mac.walk n m.step)[i]? = some x := h
        obtain ⟨h3, h4, h5⟩ := Mac.walk_get h2
        exact ⟨by rw [(Mac.run_on (n := i) e2).1]; exact h3, h4, Nat.succ_lt_succ h5⟩
theorem Mac.walk_did : ∀ (n : Nat) (m : Mac), (Mac.walk n m).length = Mac.did n m
  | 0, _ => rfl
  | n + 1, m => by
    unfold Mac.walk Mac.did
    by_cases e : m.ended = true
    · rw [if_pos e, if_pos e]; rfl
    · rw [if_neg e, if_neg e, List.length_cons, Mac.walk_did n m.step]
theorem Mac.act_wr (m : Mac) (k a : Int) : (m.act k a).written = m.written ∨ (m.act k a).written = m.written ++ [m.hand] := by
  unfold Mac.act
  split; exact .inl rfl
  split; exact .inl rfl
  split; exact .inl rfl
  split; exact .inl rfl
  split; exact .inl rfl
  split; exact .inl rfl
  split; exact .inl rfl
  split
  · refine .inl ?_
    unfold Mac.take
    split <;> rfl
  split; exact .inr rfl
  exact .inl rfl
theorem Mac.step_wr (m : Mac) : m.step.written = m.written ∨ ∃ c, m.step.written = m.written ++ [c] := by
  unfold Mac.step
  split; exact .inl rfl
  split; exact .inl rfl
  split; exact .inl rfl
  rcases Mac.act_wr ({ m with place := (m.place + 1) % 4096 } : Mac) (m.cell m.place / 4096) (m.cell m.place % 4096) with h | h
  · exact .inl h
  · exact .inr ⟨_, h⟩
theorem getLast_snoc {xs : List Int} {c : Int} {ys : List Int} (e : ys = xs ++ [c]) (h : ys ≠ []) : ys.getLast h = c := by
  subst e
  exact List.getLast_concat
theorem Mac.step_wrote (m : Mac) : m.step.written = m.written ++ m.wrote.toList := by
  unfold Mac.wrote
  rcases Mac.step_wr m with h | ⟨c, h⟩
  · rw [dif_neg (by rw [h]; exact Nat.lt_irrefl _), h]
    exact (List.append_nil _).symm
  · have hl : m.written.length < m.step.written.length := by rw [h, List.length_append]; exact Nat.lt_succ_self _
    rw [dif_pos hl, getLast_snoc h, h]
    rfl
theorem Mac.walk_written : ∀ (n : Nat) (m : Mac), (Mac.run n m).written = m.written ++ (Mac.walk n m).filterMap Mac.wrote
  | 0, m => (List.append_nil _).symm
  | n + 1, m => by
    unfold Mac.walk
    cases e : m.ended with
    | true =>
      rw [(Mac.run_end (n := n + 1) e).1, if_pos rfl]
      exact (List.append_nil _).symm
    | false =>
      rw [(Mac.run_on (n := n) e).1, if_neg Bool.false_ne_true, Mac.walk_written n m.step, Mac.step_wrote, List.append_assoc]
      congr 1
      rw [List.filterMap_cons]
      cases m.wrote with
      | none => rfl
      | some c => rfl
/-- one of the tuples by itself, and back -/
theorem Paired.get {α β : Type} {F : α → β → Prop} {xs : List α} {ys : List β} (h : Paired F xs ys) {i : Nat} {a : α} {b : β} (ha : xs[i]? = some a) (hb : ys[i]? = some b) : F a b := by
  induction h generalizing i with
  | nil => cases ha
  | cons r _ ih =>
    cases i with
    | zero => cases ha; cases hb; exact r
    | succ i => exact ih ha hb
theorem Paired.cut {α β : Type} {F : α → β → Prop} {xs : List α} {ys : List β} (h : Paired F xs ys) : ∀ i : Nat, Paired F (xs.eraseIdx i) (ys.eraseIdx i) := by
  induction h with
  | nil => intro i; exact .nil
  | cons r t ih =>
    intro i
    cases i with
    | zero => exact t
    | succ i => exact .cons r (ih i)
theorem Paired.join {α β : Type} {F : α → β → Prop} : ∀ {xs : List α} {ys : List β} {i : Nat} {a : α} {b : β}, xs[i]? = some a → ys[i]? = some b → F a b → Paired F (xs.eraseIdx i) (ys.eraseIdx i) → Paired F xs ys
  | [], _, _, _, _, ha, _, _, _ => nomatch ha
  | _ :: _, [], _, _, _, _, hb, _, _ => nomatch hb
  | x :: xs, y :: ys, 0, a, b, ha, hb, r, h => by
    cases ha
    cases hb
    exact .cons r h
  | x :: xs, y :: ys, i + 1, a, b, ha, hb, r, h => by
    have h2 : Paired F (x :: xs.eraseIdx i) (y :: ys.eraseIdx i) := h
    cases h2 with
    | cons r2 h2 => exact .cons r2 (Paired.join (i := i) ha hb r h2)
theorem perm_cut {α : Type} : ∀ {xs : List α} {i : Nat} {a : α}, xs[i]? = some a → xs.Perm (a :: xs.eraseIdx i)
  | [], _, _, h => nomatch h
  | x :: xs, 0, a, h => by cases h; exact .refl _
  | x :: xs, i + 1, a, h => by
    have h2 : xs[i]? = some a := h
    exact ((perm_cut h2).cons x).trans (.swap _ _ _)
section
variable {E : List Ent} {H : Hp} {ts : List Addr} {vss : List (List V)} {i : Nat} {t : Addr} {vs : List V}
theorem Has.outTup (h : Has (tupsE ts vss :: E) H) (ht : ts[i]? = some t) (hv : vss[i]? = some vs) : Has (cel t (.tup vs) :: tupsE (ts.eraseIdx i) (vss.eraseIdx i) :: E) H := by
  refine ⟨?_, fun x hx => ?_⟩
  · show (t :: (ts.eraseIdx i ++ adrs E)).Nodup
    have n : (ts ++ adrs E).Nodup := h.nd
    exact (((perm_cut ht).append_right (adrs E)).nodup_iff).mp n
  · rcases List.mem_cons.mp hx with rfl | hx
    · exact Paired.get h.head ht hv
    rcases List.mem_cons.mp hx with rfl | hx
    · exact Paired.cut h.head i
    · exact h.ok x (List.mem_cons_of_mem _ hx)
theorem Has.inTup (h : Has (cel t (.tup vs) :: tupsE (ts.eraseIdx i) (vss.eraseIdx i) :: E) H) (ht : ts[i]? = some t) (hv : vss[i]? = some vs) : Has (tupsE ts vss :: E) H := by
  refine ⟨?_, fun x hx => ?_⟩
  · show (ts ++ adrs E).Nodup
    have n : (t :: (ts.eraseIdx i ++ adrs E)).Nodup := h.nd
    exact (((perm_cut ht).append_right (adrs E)).nodup_iff).mpr n
  · rcases List.mem_cons.mp hx with rfl | hx
    · exact Paired.join (i := i) ht hv h.head h.tail.head
    · exact h.ok x (List.mem_cons_of_mem _ (List.mem_cons_of_mem _ hx))
theorem dp_rowE {K : PySem.W.Frag} {l : List Mac} {x : Mac} (h : Has E H) (r : tupsE ts (l.map rowV) ∈ E) (ht : ts[i]? = some t) (hx : l[i]? = some x) : Dp K H (.ref t) (.tuple (rowD x)) :=
  .tup (SqT.of (Paired.get (h.get r) ht (b := rowV x) (by rw [List.getElem?_map, hx]; rfl))) (dp_row x)
end
theorem eqv_optD (o : Option Int) : PyData.eqv (optD o) (optD o) = true := by
  cases o with
  | none => rfl
  | some i => simp [optD, PyData.eqv]
theorem eqv_row (m : Mac) : PyData.eqv (.tuple (rowD m)) (.tuple (rowD m)) = true := by
  unfold rowD
  simp only [PyData.eqv, PyData.eqvAll, eqv_optD]
  simp
theorem lay_optD (o : Option Int) : PyData.canLay0 (optD o) = true := by cases o <;> rfl
theorem shaped_row (m : Mac) : SeqAt.shaped (.tuple (rowD m)) = true :=
  shaped_of (lay_tup (lay_cons rfl (lay_cons rfl (lay_cons rfl (lay_cons (lay_optD _) lay_nil))))) (by simp only [rowD, PyData.depth, PyData.depthAll, optD_depth]; decide)
end G
namespace G
open PySem PySem.Spec PyProof.Rows L2
/-! ### max, min of a tuple of ints -/
section
variable {prog : Program} {w : World} {A : Around} {E : Value → Shared → Prop} {s : Shared} {l : Addr} {its : Array Value}
theorem iter_anyTup {Q : Value → Shared → Prop} (hl : s.heap.IsTuple l its)
    (h : ∀ s₂ : Shared, s₂ = { s with heap := s.heap.push { cls := .type "tuple_iterator", data := .fields #[.ref l, .int 0 0] } } →
      (s₂.heap.IsTupleIter s.heap.objs.size l 0 ∧ s₂.heap.IsTuple l its) → (∀ b ∈ [s.heap.objs.size, l], b < s₂.heap.objs.size) → l ≠ s.heap.objs.size → Q (.ref s.heap.objs.size) s₂) :
    wpAny (model prog w) A (pyIter (.ref l)) Q E s := by
  have hlt : l < s.heap.objs.size := by obtain ⟨_, e, _⟩ := hl; exact Heap.lt_size e
  refine wpAny_pyIter_tuple hl (h _ rfl ⟨⟨_, Heap.get?_push_size _ rfl, rfl, rfl⟩, hl.push _⟩ (fun b hb => ?_) (Nat.ne_of_lt hlt))
  show b < (s.heap.push _).objs.size
  rw [Heap.size_push]
  rcases List.mem_cons.mp hb with rfl | hb
  · exact Nat.lt_succ_self _
  · rcases List.mem_cons.mp hb with rfl | hb
    · exact Nat.lt_succ_of_lt hlt
    · cases hb
theorem old_keptT {s : Shared} {l : Addr} {h' : Heap} (hk : ∀ b o, b ∉ [s.heap.objs.size] → (s.heap.push { cls := .type "tuple_iterator", data := .fields #[.ref l, .int 0 0] }).get? b = some o → h'.get? b = some o) :
    ∀ b o, s.heap.get? b = some o → h'.get? b = some o := fun b o e => by
  refine hk b o (fun hm => ?_) (Heap.get?_push_of_some _ e)
  rcases List.mem_cons.mp hm with e1 | hm
  · exact absurd (e1 ▸ Heap.lt_size e) (Nat.lt_irrefl _)
  · cases hm
end
theorem vals_int : ∀ {xs : List Int} {its : List Value}, Vals (xs.map V.int) its → its.length = xs.length ∧ ∀ (j : Nat) v, its[j]? = some v → ∃ t, v = .int (xs.getD j 0) t
  | [], _, r => by
    cases r
    exact ⟨rfl, fun _ _ h => nomatch h⟩
  | x :: xs, _, r => by
    cases r with
    | cons r rs =>
      obtain ⟨h1, h2⟩ := vals_int rs
      refine ⟨congrArg (· + 1) h1, fun j v hj => ?_⟩
      cases j with
      | zero =>
        cases hj
        exact r
      | succ j => exact h2 j v hj
section
variable {X : Cx}
def rMaxT (K : PySem.W.Frag) : List V → Hp → VK → Prop := fun vs H Q => ∃ (p : Addr) (xs : List Int), vs = [.ref p] ∧ SqT K H p (xs.map V.int) ∧ xs ≠ [] ∧ ∀ n ∈ xs, (∀ a ∈ xs, a ≤ n) → Q (.int n) H
def rMinT (K : PySem.W.Frag) : List V → Hp → VK → Prop := fun vs H Q => ∃ (p : Addr) (xs : List Int), vs = [.ref p] ∧ SqT K H p (xs.map V.int) ∧ xs ≠ [] ∧ ∀ n ∈ xs, (∀ a ∈ xs, n ≤ a) → Q (.int n) H
theorem getD_in {xs : List Int} {j : Nat} (h : j < xs.length) : xs.getD j 0 ∈ xs := by
  rw [List.getD_eq_getElem?_getD, List.getElem?_eq_getElem h]
  exact List.getElem_mem h
theorem in_getD {xs : List Int} {a : Int} (h : a ∈ xs) : ∃ j, j < xs.length ∧ a = xs.getD j 0 := by
  obtain ⟨j, hj, rfl⟩ := List.mem_iff_getElem.mp h
  exact ⟨j, hj, by rw [List.getD_eq_getElem?_getD, List.getElem?_eq_getElem hj]; rfl⟩
theorem call_maxT (hc : X.calm = true) : CallR X (.builtin "max") (rMaxT X.K) := by
  intro pins s σ H vs us Q I r h
  obtain ⟨p, xs, rfl, hs, ne, q⟩ := h
  obtain ⟨its, rv, hl, _⟩ := I.tuple hs
  obtain ⟨h1, h2⟩ := vals_int rv
  have hn : 0 < xs.length := List.length_pos_iff.mpr ne
  rw [Vals.ref1 r]
  refine call_max_walk (iter_anyTup hl fun s₂ e st hfp hlI => ?_)
  subst e
  have hh := I.ok.hd hc
  have hz : its.toArray.size = xs.length := by simpa using h1
  refine ⟨_, _, _, _, _, _, _, rfl, Walks.tuple (A := X.A.in1) hh _ p hlI its.toArray, st, hfp, Nat.lt_of_lt_of_eq hn hz.symm, CmpOf.ints_gt (fun j => xs.getD j 0) (fun j v hv => h2 j v (by rw [List.getElem?_toArray] at hv; exact hv)), fun v h' tk hP hk => ?_⟩
  have hb := argBest_gt (fun j => xs.getD j 0) (its.toArray.size - 1)
  generalize argBest _ _ = k at hb hP
  rw [hz] at hb
  rw [List.getElem?_toArray] at hP
  obtain ⟨t, rfl⟩ := h2 _ v hP
  have R : RelV (.int (xs.getD k 0)) (.int (xs.getD k 0) t) := ⟨t, rfl⟩
  refine ⟨_, H, I.kept (old_keptT hk), R, ?_⟩
  refine q _ (getD_in (by omega)) fun a ha => ?_
  obtain ⟨j, hj, rfl⟩ := in_getD ha
  exact hb.2 j (by omega)
theorem call_minT (hc : X.calm = true) : CallR X (.builtin "min") (rMinT X.K) := by
  intro pins s σ H vs us Q I r h
  obtain ⟨p, xs, rfl, hs, ne, q⟩ := h
  obtain ⟨its, rv, hl, _⟩ := I.tuple hs
  obtain ⟨h1, h2⟩ := vals_int rv
  have hn : 0 < xs.length := List.length_pos_iff.mpr ne
  rw [Vals.ref1 r]
  refine call_min_walk (iter_anyTup hl fun s₂ e st hfp hlI => ?_)
  subst e
  have hh := I.ok.hd hc
  have hz : its.toArray.size = xs.length := by simpa using h1
  refine ⟨_, _, _, _, _, _, _, rfl, Walks.tuple (A := X.A.in1) hh _ p hlI its.toArray, st, hfp, Nat.lt_of_lt_of_eq hn hz.symm, CmpOf.ints_lt (fun j => xs.getD j 0) (fun j v hv => h2 j v (by rw [List.getElem?_toArray] at hv; exact hv)), fun v h' tk hP hk => ?_⟩
  have hb := argBest_lt (fun j => xs.getD j 0) (its.toArray.size - 1)
  generalize argBest _ _ = k at hb hP
  rw [hz] at hb
  rw [List.getElem?_toArray] at hP
  obtain ⟨t, rfl⟩ := h2 _ v hP
  have R : RelV (.int (xs.getD k 0)) (.int (xs.getD k 0) t) := ⟨t, rfl⟩
  refine ⟨_, H, I.kept (old_keptT hk), R, ?_⟩
  refine q _ (getD_in (by omega)) fun a ha => ?_
  obtain ⟨j, hj, rfl⟩ := in_getD ha
  exact hb.2 j (by omega)
theorem n_maxT {K : PySem.W.Frag} (h : X.K = K) (hc : X.calm = true) : CallR X (.builtin "max") (rMaxT K) := by subst h; exact call_maxT hc
theorem n_minT {K : PySem.W.Frag} (h : X.K = K) (hc : X.calm = true) : CallR X (.builtin "min") (rMinT K) := by subst h; exact call_minT hc
end
section
variable {H : Hp} {Q : VK} {K : PySem.W.Frag} {E : List Ent}
theorem g_isBl {a b : Bool} (q : Q (.bl (decide (a = b))) H) : L2.rIsB (.bl a) (.bl b) H Q := ⟨a, b, rfl, rfl, q⟩
instance i_g_isBl {a b : Bool} : Lk (L2.rIsB (.bl a) (.bl b) H Q) (Q (.bl (decide (a = b))) H) := ⟨g_isBl⟩
theorem g_notBl {a b : Bool} (q : Q (.bl (!decide (a = b))) H) : L2.rNotB (.bl a) (.bl b) H Q := ⟨a, b, rfl, rfl, q⟩
instance i_g_notBl {a b : Bool} : Lk (L2.rNotB (.bl a) (.bl b) H Q) (Q (.bl (!decide (a = b))) H) := ⟨g_notBl⟩
theorem g_maxT {p : Addr} {xs : List Int} (h : Has E H) (m : cel p (.tup (xs.map V.int)) ∈ E) (ne : xs ≠ []) (q : ∀ n ∈ xs, (∀ a ∈ xs, a ≤ n) → Q (.int n) H) : rMaxT K [.ref p] H Q := ⟨p, xs, rfl, SqT.of (h.at m), ne, q⟩
theorem g_minT {p : Addr} {xs : List Int} (h : Has E H) (m : cel p (.tup (xs.map V.int)) ∈ E) (ne : xs ≠ []) (q : ∀ n ∈ xs, (∀ a ∈ xs, n ≤ a) → Q (.int n) H) : rMinT K [.ref p] H Q := ⟨p, xs, rfl, SqT.of (h.at m), ne, q⟩
end
end G
namespace G
open PySem PySem.Spec PyProof.Rows L2
/-! ### (v,) * k for a greater k; a walk over a list or a tuple -/
def rRep1 (K : PySem.W.Frag) : R2 := fun x y H Q => ∃ (l : Addr) (k : Int) (z : V), x = .ref l ∧ y = .int k ∧ SqT K H l [z] ∧ 2 ≤ k ∧ k ≤ 1000000 ∧ ∀ p, H p = none → Q (.ref p) (upd H p (.tup (List.replicate k.toNat z)))
theorem flat_one {α : Type} (z : α) : ∀ n : Nat, (List.replicate n [z]).flatten = List.replicate n z
  | 0 => rfl
  | n + 1 => by rw [List.replicate_succ, List.replicate_succ, List.flatten_cons, flat_one z n]; rfl
theorem vals_rep {z : V} {u : Value} (r : RelV z u) : ∀ n : Nat, Vals (List.replicate n z) (List.replicate n u)
  | 0 => .nil
  | n + 1 => by rw [List.replicate_succ, List.replicate_succ]; exact .cons r (vals_rep r n)
section
variable {X : Cx}
theorem op_rep1 : OpR X (binaryOp .Mult) (rRep1 X.K) := by
  intro pins s σ H x y v u Q I rx ry h
  obtain ⟨l, k, z, rfl, rfl, hT, h1, h2, q⟩ := h
  cases rx
  obtain ⟨t, rfl⟩ := ry
  obtain ⟨its, r, ⟨⟨cls, dd, data, sl⟩, ho, hc, n, hd⟩, hs⟩ := I.tuple hT
  simp only at hc hd
  subst hc hd
  cases r with
  | cons rz rr =>
    cases rr
    rename_i zu
    have e : (List.replicate k.toNat [zu]).flatten = List.replicate k.toNat zu := flat_one zu _
    have c0 : (decide (k < -(2 ^ 63)) || decide (k ≥ 2 ^ 63)) = false := by rw [decide_eq_false (by omega), decide_eq_false (by omega)]; rfl
    have c1 : ([zu].toArray.isEmpty || k == 1) = false := beq_eq_false_iff_ne.mpr (by omega)
    have c2 : (decide (k ≤ 0) || [zu].toArray.isEmpty) = false := by rw [decide_eq_false (by omega)]; rfl
    have m1 : (([zu].toArray.size : Nat) : Int) * k = k := Int.one_mul k
    have c4 : Builtin.Tuple.tupleTooMany ((([zu].toArray.size : Nat) : Int) * k) = false := by
      rw [m1]
      unfold Builtin.Tuple.tupleTooMany
      rw [sizeLine_eq]
      exact decide_eq_false (by omega)
    have len : (List.replicate k.toNat zu).length ≤ sizeLine := by rw [List.length_replicate, sizeLine_eq]; omega
    refine wpAny_binaryOp_repeat_ref (T := "tuple") (U := "int") (by decide) ⟨_, ho, rfl⟩ (fun s' => typeIs_int s' k t) noFill_tuple_mul F.fills_int_mul F.slot_int_rmul repeat_tuple F.slot_int_index.lookup
      (call_meets F.slot_int_rmul (typeIs_int s k t) F.entry_int_rmul (F.args_int_rmul_2 _ _) (int_rmul_tuple k t l [zu].toArray n dd sl)
        ⟨ho, rfl, ⟨_, ho, rfl⟩, call_meets F.slot_tuple_mul ⟨_, ho, rfl⟩ F.entry_tuple_mul (F.args_tuple_mul_2 _ _) (tuple_mulW l [zu].toArray n dd sl k t c0 c1 c2 (by rw [m1]; omega) c4 (by rw [size_rep, List.size_toArray, e]; exact len)) ⟨ho, ?_⟩⟩)
    rw [size_rep, e]
    refine ⟨.ref s.heap.objs.size, _, I.laid (t' := s.toks) (o := .tup (List.replicate k.toNat z)) (fun b ob q => Heap.get?_push_of_some _ q) (Nat.le_refl _) ?_, rfl, q _ (I.hok.fresh (Nat.le_refl _))⟩
    exact ⟨by rw [List.length_replicate, sizeLine_eq]; omega, _, vals_rep rz k.toNat, IsTup.new _ _⟩
def iSeq (K : PySem.W.Frag) (tl : TE) : TI := fun σ H R => tl σ H fun x H1 => ∃ a, x = .ref a ∧ (((∃ xs, SqL K H1 a xs) ∧ R (Itl K a) H1) ∨ ((∃ xs, SqT K H1 a xs) ∧ R (Itt K a) H1))
theorem pi_seq {tg : Expr} {l : Expr} {tl : TE} (hl : PE X l tl) : PI X tg l (iSeq X.K tl) := by
  refine ⟨fun pins s σ H R I h => ?_⟩
  refine thn (hl.run pins s σ H _ I h) fun v s1 ⟨x, H1, I1, r1, q1⟩ => ?_
  obtain ⟨a, e, q⟩ := q1
  subst e
  cases r1
  have fp : ∀ b ∈ [s1.heap.objs.size], H1 b = none := fun b hb => by
    rw [List.mem_singleton.mp hb]
    exact I1.hok.fresh (Nat.le_refl _)
  rcases q with ⟨⟨xs, hq⟩, q⟩ | ⟨⟨xs, hq⟩, q⟩
  · obtain ⟨its, rv, p, hz⟩ := I1.list hq
    refine wpAny_pyIter_list p.isList ?_
    refine ⟨s1.heap.objs.size, [s1.heap.objs.size], _, _, H1, rfl, I1.kept (t' := s1.toks) fun b o e => Heap.get?_push_of_some _ e, turn_list a _, ⟨_, Heap.get?_push_size _ rfl, rfl, rfl⟩, fun b hb => ?_, q⟩
    rw [List.mem_singleton.mp hb]
    exact I1.fpOk (Nat.le_refl _) (I1.hok.fresh (Nat.le_refl _))
  · obtain ⟨its, rv, p, hz⟩ := I1.tuple hq
    refine wpAny_pyIter_tuple (show s1.heap.IsTuple a its.toArray from p) ?_
    refine ⟨s1.heap.objs.size, [s1.heap.objs.size], _, _, H1, rfl, I1.kept (t' := s1.toks) fun b o e => Heap.get?_push_of_some _ e, turn_tuple a _, ⟨_, Heap.get?_push_size _ rfl, rfl, rfl⟩, fun b hb => ?_, q⟩
    rw [List.mem_singleton.mp hb]
    exact I1.fpOk (Nat.le_refl _) (I1.hok.fresh (Nat.le_refl _))
end
section
variable {H : Hp} {Q : VK} {K : PySem.W.Frag} {E : List Ent}
theorem g_rep1 {p : Addr} {k : Int} {z : V} (h : Has E H) (m : cel p (.tup [z]) ∈ E) (k0 : 2 ≤ k) (k1 : k ≤ 1000000) (q : ∀ l H', H l = none → Has (cel l (.tup (List.replicate k.toNat z)) :: E) H' → Q (.ref l) H') : rRep1 K (.ref p) (.int k) H Q :=
  ⟨p, k, z, rfl, rfl, SqT.of (h.at m), k0, k1, fun l f => q l _ f (h.new f)⟩
theorem g_draw {p : Addr} {E1 : List Ent} {n : Int} {S : List V → Hp → VK → XK → Prop} {X : XK} (h : Has E H) (r : Rem (pen p) E E1) (s : PenAt p H → (∀ H' r, But p H H' → PenAt p H' → 0 ≤ r → r < n → Q (.int r) H') → S [.ref p, .int n] H Q X) (q : ∀ H', Has (pen p :: E1) H' → ∀ r, 0 ≤ r → r < n → Q (.int r) H') : S [.ref p, .int n] H Q X :=
  s (pen_ok (h.rem r).head) fun H' k b hp k0 k1 => q H' ((h.rem r).turnPen b hp) k k0 k1
end
/-! ### images led on -/
def ledI (b w : Int) : Int := w + b * (if leadB w then 1 else 0)
theorem ledI_of {b w : Int} (h : leadB w = true) : ledI b w = w + b := by unfold ledI; rw [if_pos h, Int.mul_one]
theorem ledI_no {b w : Int} (h : leadB w = false) : ledI b w = w := by unfold ledI; rw [h, if_neg Bool.false_ne_true, Int.mul_zero, Int.add_zero]
theorem lead_kinds {w : Int} (h : leadB w = true) : w / 4096 = 8 ∨ w / 4096 = 9 ∨ w / 4096 = 10 ∨ w / 4096 = 13 ∨ w / 4096 = 14 := by
  unfold leadB at h
  simp only [Bool.or_eq_true, decide_eq_true_eq] at h
  omega
theorem lead_not {w : Int} (h : leadB w = false) : w / 4096 ≠ 8 ∧ w / 4096 ≠ 9 ∧ w / 4096 ≠ 10 ∧ w / 4096 ≠ 13 ∧ w / 4096 ≠ 14 := by
  unfold leadB at h
  simp only [Bool.or_eq_false_iff, decide_eq_false_iff_not] at h
  omega
theorem imgB_len {ws : List Int} (h : imgB (ws.map V.int) = true) : ws.length ≤ 1000 := by
  unfold imgB at h
  simp only [Bool.and_eq_true, decide_eq_true_eq, List.length_map] at h
  omega
theorem imgB_len2 {ws : List Int} (h : imgB (ws.map V.int) = true) : 1 ≤ ws.length ∧ ws.length ≤ 1000 := by
  unfold imgB at h
  simp only [Bool.and_eq_true, decide_eq_true_eq, List.length_map] at h
  omega
theorem imgB_mk {ws : List Int} (h0 : 1 ≤ ws.length) (h : ws.length ≤ 1000) (hw : ∀ c ∈ ws, 0 ≤ c ∧ c ≤ 65535 ∧ (leadB c = true → c % 4096 < ws.length)) : imgB (ws.map V.int) = true := by
  unfold imgB
  simp only [Bool.and_eq_true, List.all_map, List.all_eq_true, List.length_map, decide_eq_true_eq]
  refine ⟨by omega, by omega, fun c hc => btwV_int ⟨(hw c hc).1, (hw c hc).2.1⟩, fun c hc => ?_⟩
  show (!leadB c || decide (c % 4096 < ((ws.length : Nat) : Int))) = true
  cases e : leadB c with
  | false => rfl
  | true => rw [decide_eq_true ((hw c hc).2.2 e), Bool.or_true]
end G
namespace G
open PySem PySem.Spec PyProof.Rows L2
/-! ### two machines that hold the same plain image at two places do the same -/
/-- one word of a plain image of n words -/
def PlainW (n c : Int) : Prop := c = 0 ∨ (0 ≤ c ∧ c ≤ 65535 ∧ ((leadB c = true ∧ c % 4096 < n) ∨ (leadB c = false ∧ c / 4096 ≠ 0 ∧ c / 4096 ≠ 6 ∧ c / 4096 ≠ 7 ∧ 33 ≤ c % 4096 ∧ c % 4096 ≤ 38)))
structure PlainI (ws : List Int) : Prop where
  pos : 1 ≤ ws.length
  word : ∀ c ∈ ws, PlainW ws.length c
  last : ws.getD (ws.length - 1) 0 = 0
/-- a place for it -/
structure Spot (ws : List Int) (a : Int) : Prop where
  lo : 39 ≤ a
  hi : a + ws.length ≤ 4096
theorem cell_set {m : Mac} {i j v : Int} (hm : m.cells.length = 4096) (h0 : 0 ≤ i) (h1 : i ≤ 4095) (j0 : 0 ≤ j) : ({ m with cells := m.cells.set i.toNat v } : Mac).cell j = if j = i then v else m.cell j := by
  unfold Mac.cell
  rw [List.getD_eq_getElem?_getD, List.getD_eq_getElem?_getD, List.getElem?_set]
  by_cases e : j = i
  · rw [if_pos e, if_pos (by rw [e]), if_pos (by omega)]
    rfl
  · rw [if_neg e, if_neg (by omega)]
/-- how the two stand -/
structure Sim (ws : List Int) (a b : Int) (f g : Int → Int) (m n : Mac) : Prop where
  lm : m.cells.length = 4096
  ln : n.cells.length = 4096
  at_ : ∃ i : Nat, i < ws.length ∧ m.place = a + i ∧ n.place = b + i
  hand : m.hand = n.hand
  text : m.text = n.text
  read : m.read = n.read
  written : m.written = n.written
  ended : m.ended = n.ended
  low : ∀ d : Int, 33 ≤ d → d ≤ 38 → m.cell d = n.cell d
  hm : ∀ d : Int, 39 ≤ d → m.cell d = f d
  hn : ∀ d : Int, 39 ≤ d → n.cell d = g d
theorem cell_same {m n : Mac} (h : m.cells = n.cells) (d : Int) : m.cell d = n.cell d := by unfold Mac.cell; rw [h]
theorem Sim.act {ws : List Int} {a b : Int} {f g : Int → Int} {m n : Mac} (h : Sim ws a b f g m n) {k d : Int} (d0 : 33 ≤ d) (d1 : d ≤ 38) (k6 : k ≠ 6) (k7 : k ≠ 7) : Sim ws a b f g (m.act k d) (n.act k d) := by
  unfold Mac.act
  by_cases k1 : k = 1
  · rw [if_pos k1, if_pos k1]
    exact ⟨h.lm, h.ln, h.at_, h.low d d0 d1, h.text, h.read, h.written, h.ended, h.low, h.hm, h.hn⟩
  rw [if_neg k1, if_neg k1]
  by_cases k2 : k = 2
  · rw [if_pos k2, if_pos k2]
    refine ⟨by simpa using h.lm, by simpa using h.ln, h.at_, h.hand, h.text, h.read, h.written, h.ended, fun e e0 e1 => ?_, fun e e0 => ?_, fun e e0 => ?_⟩
    · rw [cell_set h.lm (by omega) (by omega) (by omega), cell_set h.ln (by omega) (by omega) (by omega), h.hand, h.low e e0 e1]
    · rw [cell_set h.lm (by omega) (by omega) (by omega), if_neg (by omega)]
      exact h.hm e e0
    · rw [cell_set h.ln (by omega) (by omega) (by omega), if_neg (by omega)]
      exact h.hn e e0
  rw [if_neg k2, if_neg k2]
  by_cases k3 : k = 3
  · rw [if_pos k3, if_pos k3]
    exact ⟨h.lm, h.ln, h.at_, by show (m.hand + m.cell d) % 65536 = (n.hand + n.cell d) % 65536; rw [h.hand, h.low d d0 d1], h.text, h.read, h.written, h.ended, h.low, h.hm, h.hn⟩
  rw [if_neg k3, if_neg k3]
  by_cases k4 : k = 4
  · rw [if_pos k4, if_pos k4]
    exact ⟨h.lm, h.ln, h.at_, by show (m.hand - m.cell d) % 65536 = (n.hand - n.cell d) % 65536; rw [h.hand, h.low d d0 d1], h.text, h.read, h.written, h.ended, h.low, h.hm, h.hn⟩
  rw [if_neg k4, if_neg k4]
  by_cases k5 : k = 5
  · rw [if_pos k5, if_pos k5]
    exact ⟨h.lm, h.ln, h.at_, rfl, h.text, h.read, h.written, h.ended, h.low, h.hm, h.hn⟩
  rw [if_neg k5, if_neg k5, if_neg k6, if_neg k6, if_neg k7, if_neg k7]
  by_cases k11 : k = 11
  · rw [if_pos k11, if_pos k11]
    unfold Mac.take
    by_cases e : n.read = n.text.length
    · have e' : m.read = m.text.length := by rw [h.read, h.text]; exact e
      rw [if_pos e', if_pos e]
      exact ⟨h.lm, h.ln, h.at_, rfl, h.text, h.read, h.written, h.ended, h.low, h.hm, h.hn⟩
    · have e' : ¬ m.read = m.text.length := by rw [h.read, h.text]; exact e
      rw [if_neg e', if_neg e]
      exact ⟨h.lm, h.ln, h.at_, by show m.sign = n.sign; unfold Mac.sign; rw [h.text, h.read], h.text, by show m.read + 1 = n.read + 1; rw [h.read], h.written, h.ended, h.low, h.hm, h.hn⟩
  rw [if_neg k11, if_neg k11]
  by_cases k12 : k = 12
  · rw [if_pos k12, if_pos k12]
    exact ⟨h.lm, h.ln, h.at_, h.hand, h.text, h.read, by show m.written ++ [m.hand] = n.written ++ [n.hand]; rw [h.written, h.hand], h.ended, h.low, h.hm, h.hn⟩
  rw [if_neg k12, if_neg k12]
  exact h
theorem act_lead {m : Mac} {k d : Int} (h : k = 8 ∨ k = 9 ∨ k = 10 ∨ k = 13 ∨ k = 14) : m.act k d = m := by
  unfold Mac.act
  rw [if_neg (by omega), if_neg (by omega), if_neg (by omega), if_neg (by omega), if_neg (by omega), if_neg (by omega), if_neg (by omega), if_neg (by omega), if_neg (by omega)]
theorem leads_kinds {k x : Int} (h : leadsM k x = true) : k = 8 ∨ k = 9 ∨ k = 10 ∨ k = 13 ∨ k = 14 := by
  unfold leadsM at h
  split at h
  · omega
  · split at h
    · omega
    · have := of_decide_eq_true h
      omega
theorem getD_mem {ws : List Int} {i : Nat} (h : i < ws.length) : ws.getD i 0 ∈ ws := by
  rw [List.getD_eq_getElem?_getD, List.getElem?_eq_getElem h]
  exact List.getElem_mem h
theorem Sim.step {ws : List Int} {a b : Int} {f g : Int → Int} {m n : Mac} (P : PlainI ws) (A : Spot ws a) (B : Spot ws b) (hf : ∀ i : Nat, i < ws.length → f (a + i) = ledI a (ws.getD i 0)) (hg : ∀ i : Nat, i < ws.length → g (b + i) = ledI b (ws.getD i 0)) (h : Sim ws a b f g m n) : Sim ws a b f g m.step n.step := by
  obtain ⟨i, hi, pm, pn⟩ := h.at_
  have A0 := A.lo
  have A1 := A.hi
  have B0 := B.lo
  have B1 := B.hi
  have cm : m.cell m.place = ledI a (ws.getD i 0) := by rw [pm, h.hm _ (by omega), hf i hi]
  have cn : n.cell n.place = ledI b (ws.getD i 0) := by rw [pn, h.hn _ (by omega), hg i hi]
  unfold Mac.step
  by_cases e : n.ended = true
  · rw [if_pos (h.ended.trans e), if_pos e]; exact h
  rw [if_neg (fun z => e (h.ended.symm.trans z)), if_neg e, cm, cn]
  have hw := P.word _ (getD_mem hi)
  have hl := P.last
  generalize hc : ws.getD i 0 = c at hw ⊢
  rcases hw with rfl | ⟨w0, w1, hw⟩
  · have z : leadB 0 = false := by decide
    rw [ledI_no z, ledI_no z, if_pos (by decide), if_pos (by decide)]
    exact ⟨h.lm, h.ln, h.at_, h.hand, h.text, h.read, h.written, rfl, h.low, h.hm, h.hn⟩
  · have hc0 : c ≠ 0 := by
      rintro rfl
      rcases hw with ⟨z, _⟩ | ⟨_, z, _⟩
      · exact absurd z (by decide)
      · exact z (by decide)
    have hi1 : i + 1 < ws.length := by
      have : i ≠ ws.length - 1 := fun e => hc0 (by rw [← hc, e]; exact hl)
      omega
    have S1 : Sim ws a b f g { m with place := (m.place + 1) % 4096 } { n with place := (n.place + 1) % 4096 } :=
      ⟨h.lm, h.ln, ⟨i + 1, hi1, by show (m.place + 1) % 4096 = _; rw [pm]; omega, by show (n.place + 1) % 4096 = _; rw [pn]; omega⟩, h.hand, h.text, h.read, h.written, h.ended, h.low, h.hm, h.hn⟩
    rcases hw with ⟨z, za⟩ | ⟨z, z0, z6, z7, za, zb⟩
    · have zk := lead_kinds z
      rw [ledI_of z, ledI_of z]
      have ka : (c + a) / 4096 = c / 4096 := by omega
      have kb : (c + b) / 4096 = c / 4096 := by omega
      have ra : (c + a) % 4096 = a + c % 4096 := by omega
      have rb : (c + b) % 4096 = b + c % 4096 := by omega
      have kz : ¬ c / 4096 = 0 := by omega
      have hx : leadsM (c / 4096) m.hand = leadsM (c / 4096) n.hand := by rw [h.hand]
      rw [ka, kb, ra, rb, if_neg kz, if_neg kz]
      by_cases hld : leadsM (c / 4096) n.hand = true
      · rw [if_pos (hx.trans hld), if_pos hld]
        refine ⟨h.lm, h.ln, ⟨(c % 4096).toNat, by omega, ?_, ?_⟩, h.hand, h.text, h.read, h.written, h.ended, h.low, h.hm, h.hn⟩
        · show a + c % 4096 = a + ((c % 4096).toNat : Int); omega
        · show b + c % 4096 = b + ((c % 4096).toNat : Int); omega
      · rw [if_neg (fun y => hld (hx.symm.trans y)), if_neg hld, act_lead zk, act_lead zk]
        exact S1
    · have zk := lead_not z
      rw [ledI_no z, ledI_no z, if_neg z0, if_neg z0]
      have nl : ∀ x : Int, ¬ leadsM (c / 4096) x = true := fun x hx => by have := leads_kinds hx; omega
      rw [if_neg (nl _), if_neg (nl _)]
      exact S1.act za zb z6 z7
theorem Sim.run {ws : List Int} {a b : Int} {f g : Int → Int} (P : PlainI ws) (A : Spot ws a) (B : Spot ws b) (hf : ∀ i : Nat, i < ws.length → f (a + i) = ledI a (ws.getD i 0)) (hg : ∀ i : Nat, i < ws.length → g (b + i) = ledI b (ws.getD i 0)) :
    ∀ (k : Nat) {m n : Mac}, Sim ws a b f g m n → Sim ws a b f g (Mac.run k m) (Mac.run k n) ∧ Mac.did k m = Mac.did k n
  | 0, _, _, h => ⟨h, rfl⟩
  | k + 1, m, n, h => by
    cases e : m.ended with
    | true =>
      have e2 : n.ended = true := by rw [← h.ended]; exact e
      obtain ⟨r1, d1⟩ := Mac.run_end (n := k + 1) e
      obtain ⟨r2, d2⟩ := Mac.run_end (n := k + 1) e2
      rw [r1, r2, d1, d2]
      exact ⟨h, rfl⟩
    | false =>
      have e2 : n.ended = false := by rw [← h.ended]; exact e
      obtain ⟨r1, d1⟩ := Mac.run_on (n := k) e
      obtain ⟨r2, d2⟩ := Mac.run_on (n := k) e2
      rw [r1, r2, d1, d2]
      obtain ⟨h1, h2⟩ := Sim.run P A B hf hg k (h.step P A B hf hg)
      exact ⟨h1, by rw [h2]⟩
/-! ### images: their words, led on and back -/
theorem img_word {ws : List Int} (h : imgB (ws.map V.int) = true) {c : Int} (hc : c ∈ ws) : 0 ≤ c ∧ c ≤ 65535 ∧ (leadB c = true → c % 4096 < ws.length) := by
  unfold imgB at h
  simp only [Bool.and_eq_true, List.all_map, List.all_eq_true, List.length_map] at h
  obtain ⟨_, _, h1, h2⟩ := h
  have a := h1 c hc
  have b := h2 c hc
  simp only [Function.comp, btwV, leadsV, Bool.and_eq_true, Bool.or_eq_true, Bool.not_eq_true', decide_eq_true_eq] at a b
  refine ⟨a.1, a.2, fun e => ?_⟩
  rcases b with b | b
  · rw [e] at b; cases b
  · exact b
theorem led_lead {w k n : Int} (hk : 0 ≤ k) (hn : k + n ≤ 4096) (h : leadB w = true → w % 4096 < n) : leadB (ledI k w) = leadB w ∧ (leadB w = true → ledI k w % 4096 = w % 4096 + k) := by
  cases e : leadB w with
  | false => rw [ledI_no e]; exact ⟨e, fun z => nomatch z⟩
  | true =>
    rw [ledI_of e]
    have := h e
    have e1 : (w + k) / 4096 = w / 4096 := by omega
    refine ⟨?_, fun _ => by omega⟩
    unfold leadB at e ⊢
    rw [e1]
    exact e
theorem led_back {w k n : Int} (hk : 0 ≤ k) (hn : k + n ≤ 4096) (h : leadB w = true → w % 4096 < n) : ledI (0 - k) (ledI k w) = w := by
  have := (led_lead hk hn h).1
  cases e : leadB w with
  | false => rw [e] at this; rw [ledI_no this, ledI_no e]
  | true => rw [e] at this; rw [ledI_of this, ledI_of e]; omega
theorem led_words {ws : List Int} {k : Int} (im : imgB (ws.map V.int) = true) (hk : 0 ≤ k) (hn : k + ws.length ≤ 4096) : ∀ c ∈ ws.map (ledI k), isW c := by
  intro c hc
  obtain ⟨w, hw, rfl⟩ := List.mem_map.mp hc
  obtain ⟨h1, h2, h3⟩ := img_word im hw
  cases e : leadB w with
  | false => rw [ledI_no e]; exact ⟨h1, h2⟩
  | true =>
    rw [ledI_of e]
    have := h3 e
    exact ⟨by omega, by omega⟩
theorem ints_zeros (k : Nat) (ys : List Int) : List.replicate k (V.int 0) ++ ys.map V.int = (List.replicate k 0 ++ ys).map V.int := by
  rw [List.map_append, List.map_replicate]
/-- the machine with an image at k -/
def macI (ws : List Int) (k : Int) (x : Str) : Mac := mac0 (List.replicate k.toNat 0 ++ ws.map (ledI k)) k x
theorem macI_wfB {ws : List Int} {k : Int} {x : Str} (im : imgB (ws.map V.int) = true) (hk : 0 ≤ k) (k1 : k ≤ 4095) (hn : k + ws.length ≤ 4096) (hz : x.length ≤ 1000) (hx : ∀ c ∈ x.cps.toList, c ≤ 65535) : MacB (macI ws k x) 0 := by
  refine MacB.mac0 (fun c hc => ?_) ?_ ⟨hk, k1⟩ hz hx
  · rcases List.mem_append.mp hc with hc | hc
    · rw [List.eq_of_mem_replicate hc]; exact ⟨by decide, by decide⟩
    · exact led_words im hk hn c hc
  · rw [List.length_append, List.length_replicate, List.length_map]; omega
theorem macI_cell {ws : List Int} {k : Int} {x : Str} (hk : 0 ≤ k) (hn : k + ws.length ≤ 4096) {i : Nat} (hi : i < ws.length) : (macI ws k x).cell (k + i) = ledI k (ws.getD i 0) := by
  have e : (k + (i : Int)).toNat = k.toNat + i := by omega
  show ((List.replicate k.toNat 0 ++ ws.map (ledI k)) ++ List.replicate _ 0).getD (k + (i : Int)).toNat 0 = _
  have h1 : (List.replicate k.toNat (0 : Int)).length = k.toNat := List.length_replicate
  rw [e, List.getD_eq_getElem?_getD, List.getElem?_append_left (by rw [List.length_append, h1, List.length_map]; omega), List.getElem?_append_right (by omega), h1, Nat.add_sub_cancel_left, List.getElem?_map, List.getD_eq_getElem?_getD, List.getElem?_eq_getElem hi]
  rfl
theorem macI_low {ws : List Int} {k : Int} {x : Str} {d : Int} (h0 : 0 ≤ d) (h1 : d < k) : (macI ws k x).cell d = 0 := by
  show ((List.replicate k.toNat 0 ++ ws.map (ledI k)) ++ List.replicate _ 0).getD d.toNat 0 = 0
  rw [List.getD_eq_getElem?_getD, List.getElem?_append_left (by rw [List.length_append, List.length_replicate]; omega), List.getElem?_append_left (by rw [List.length_replicate]; omega), List.getElem?_replicate_of_lt (by omega)]
  rfl
theorem plain_img {ws : List Int} (P : PlainI ws) (h : ws.length ≤ 1000) : imgB (ws.map V.int) = true := by
  unfold imgB
  simp only [Bool.and_eq_true, List.all_map, List.all_eq_true, List.length_map, decide_eq_true_eq]
  have := P.pos
  refine ⟨by omega, by omega, fun c hc => ?_, fun c hc => ?_⟩
  · rcases P.word c hc with rfl | ⟨h0, h1, _⟩
    · show btwV (.int 0) 0 65535 = true
      exact btwV_int ⟨by decide, by decide⟩
    · exact btwV_int ⟨h0, h1⟩
  · show (!leadB c || decide (c % 4096 < ((ws.length : Nat) : Int))) = true
    rcases P.word c hc with rfl | ⟨_, _, ⟨_, h2⟩ | ⟨h2, _⟩⟩
    · rfl
    · rw [decide_eq_true h2, Bool.or_true]
    · rw [h2]; rfl
theorem sim_load {ws : List Int} {a b : Int} {x : Str} (P : PlainI ws) (A : Spot ws a) (B : Spot ws b) :
    (∀ k : Nat, Sim ws a b (macI ws a x).cell (macI ws b x).cell (Mac.run k (macI ws a x)) (Mac.run k (macI ws b x)) ∧ Mac.did k (macI ws a x) = Mac.did k (macI ws b x)) := by
  have A0 := A.lo
  have A1 := A.hi
  have B0 := B.lo
  have B1 := B.hi
  have lenI : ∀ k : Int, 0 ≤ k → k + ws.length ≤ 4096 → (macI ws k x).cells.length = 4096 := fun k h0 h1 => by
    show ((List.replicate k.toNat (0 : Int) ++ ws.map (ledI k)) ++ List.replicate (4096 - (List.replicate k.toNat (0 : Int) ++ ws.map (ledI k)).length) (0 : Int)).length = 4096
    rw [List.length_append, List.length_replicate, List.length_append, List.length_replicate, List.length_map]
    omega
  intro k
  refine Sim.run P A B (fun i hi => macI_cell (by omega) A1 hi) (fun i hi => macI_cell (by omega) B1 hi) k ?_
  refine ⟨lenI a (by omega) A1, lenI b (by omega) B1, ⟨0, P.pos, (Int.add_zero a).symm, (Int.add_zero b).symm⟩, rfl, rfl, rfl, rfl, rfl, fun d d0 d1 => ?_, fun _ _ => rfl, fun _ _ => rfl⟩
  rw [macI_low (by omega) (by omega), macI_low (by omega) (by omega)]
/-! ### what is seen of a machine -/
def seenL (m : Mac) : List Int := (List.range 6).map fun d : Nat => m.cell (33 + (d : Int))
def seenD (s : Int) (m : Mac) : PyData := .list ([.int (m.place - s), .int m.hand, .int m.read, .tuple (m.written.map .int), .bool m.ended] ++ (seenL m).map .int)
def seenV (s : Int) (m : Mac) (w : Addr) : List V := [.int (m.place - s), .int m.hand, .int m.read, .ref w, .bl m.ended] ++ (seenL m).map V.int
theorem seenL_len (m : Mac) : (seenL m).length = 6 := by unfold seenL; rw [List.length_map, List.length_range]
theorem dp_seen {K : PySem.W.Frag} {E : List Ent} {H : Hp} {s : Int} {m : Mac} {l w : Addr} (h : Has E H) (r : cel l (.lst (seenV s m w)) ∈ E) (r2 : cel w (.tup (m.written.map V.int)) ∈ E) : Dp K H (.ref l) (seenD s m) :=
  .lst (SqL.of (h.at r)) (.cons (.int _) (.cons (.int _) (.cons (.int _) (.cons (dpT_intsE h r2) (.cons (.bl _) (dpAll_ints _))))))
theorem shaped_seen (s : Int) (m : Mac) : SeqAt.shaped (seenD s m) = true :=
  shaped_of (lay_lst (lay_cons rfl (lay_cons rfl (lay_cons rfl (lay_cons (lay_tup (canLay_ints _)) (lay_cons rfl (canLay_ints _))))))) (by simp only [seenD, List.cons_append, List.nil_append, PyData.depth, PyData.depthAll, depthAll_ints]; decide)
theorem Sim.seen {ws : List Int} {a b : Int} {f g : Int → Int} {m n : Mac} (h : Sim ws a b f g m n) : seenD a m = seenD b n := by
  obtain ⟨i, _, e1, e2⟩ := h.at_
  have e3 : m.place - a = n.place - b := by omega
  have e4 : seenL m = seenL n := by
    unfold seenL
    refine List.map_congr_left fun d hd => ?_
    have := List.mem_range.mp hd
    exact h.low _ (by omega) (by omega)
  unfold seenD
  rw [e3, e4, h.hand, h.read, h.written, h.ended]
theorem cut_img {m : Mac} {ws : List Int} {k : Int} (hm : m.cells.length = 4096) (k0 : 0 ≤ k) (k1 : k + ws.length ≤ 4096) (hw : ∀ i : Nat, i < ws.length → m.cell (k + i) = ledI k (ws.getD i 0)) : cutV (m.cells.map V.int) (some k) (some (k + (ws.length : Nat))) = (ws.map (ledI k)).map V.int := by
  have e1 : HT.sIx (m.cells.map V.int).length 0 (some k) = k.toNat := by
    unfold HT.sIx
    rw [List.length_map, hm]
    simp only
    rw [if_neg (by omega)]
    omega
  have e2 : HT.sIx (m.cells.map V.int).length (m.cells.map V.int).length (some (k + (ws.length : Nat))) = k.toNat + ws.length := by
    unfold HT.sIx
    rw [List.length_map, hm]
    simp only
    rw [if_neg (by omega)]
    omega
  unfold cutV
  rw [e1, e2, Nat.add_sub_cancel_left, ← List.map_drop, ← List.map_take]
  congr 1
  refine List.ext_getElem (by rw [List.length_take, List.length_drop, List.length_map, hm]; omega) fun i h1 h2 => ?_
  rw [List.length_map] at h2
  have h3 := hw i h2
  unfold Mac.cell at h3
  rw [show (k + (i : Int)).toNat = k.toNat + i by omega, List.getD_eq_getElem?_getD, List.getElem?_eq_getElem (by omega), List.getD_eq_getElem?_getD, List.getElem?_eq_getElem h2] at h3
  rw [List.getElem_take, List.getElem_drop, List.getElem_map]
  exact h3
theorem img_back {ws : List Int} {k : Int} (im : imgB (ws.map V.int) = true) (k0 : 0 ≤ k) (k1 : k + ws.length ≤ 4096) : (ws.map (ledI k)).map (ledI (0 - k)) = ws := by
  rw [List.map_map]
  have : ∀ c ∈ ws, (ledI (0 - k) ∘ ledI k) c = c := fun c hc => led_back k0 k1 (img_word im hc).2.2
  rw [List.map_congr_left this]
  exact List.map_id' ws
theorem cut_last (ws : List Int) : cutV (ws.map V.int) none (some (-1)) = (ws.take (ws.length - 1)).map V.int := by
  have e2 : HT.sIx (ws.map V.int).length (ws.map V.int).length (some (-1)) = ws.length - 1 := by
    unfold HT.sIx
    rw [List.length_map]
    simp only
    rw [if_pos (by decide)]
    omega
  have e1 : HT.sIx (ws.map V.int).length 0 none = 0 := rfl
  unfold cutV
  rw [e1, e2, Nat.sub_zero, List.drop_zero, List.map_take]
theorem lead_at {k d : Int} (d0 : 0 ≤ d) (d1 : d < 4096) : leadB (k * 4096 + d) = leadB (k * 4096) := by
  unfold leadB
  rw [show (k * 4096 + d) / 4096 = k * 4096 / 4096 by omega]
/-- what done_by tells -/
def doneD (m : Mac) : PyData := .tuple [.str (if m.ended = true then "ended" else "later"), .tuple (m.written.map .int)]
theorem dp_done {K : PySem.W.Frag} {E : List Ent} {H : Hp} {m : Mac} {l w : Addr} (h : Has E H) (r : cel l (.tup [.str (if m.ended = true then "ended" else "later"), .ref w]) ∈ E) (r2 : cel w (.tup (m.written.map V.int)) ∈ E) : Dp K H (.ref l) (doneD m) :=
  dp_tupE h r (.cons (.str _) (.cons (dpT_intsE h r2) .nil))
theorem shaped_done (m : Mac) : SeqAt.shaped (doneD m) = true :=
  shaped_of (lay_tup (lay_cons (lay_str (by split <;> decide +kernel)) (lay_cons (lay_tup (canLay_ints _)) lay_nil))) (by simp only [doneD, PyData.depth, PyData.depthAll, depthAll_ints]; decide)
theorem dp_two {K : PySem.W.Frag} {E : List Ent} {H : Hp} {x : Str} {ns : List Int} {l w : Addr} (h : Has E H) (r : cel l (.tup [.str x, .ref w]) ∈ E) (r2 : cel w (.tup (ns.map V.int)) ∈ E) : Dp K H (.ref l) (.tuple [.str x, .tuple (ns.map .int)]) :=
  dp_tupE h r (.cons (.str _) (.cons (dpT_intsE h r2) .nil))
theorem shaped_two {x : Str} {ns : List Int} (h : PyData.strOk x = true) : SeqAt.shaped (.tuple [.str x, .tuple (ns.map .int)]) = true :=
  shaped_of (lay_tup (lay_cons (lay_str h) (lay_cons (lay_tup (canLay_ints _)) lay_nil))) (by simp only [PyData.depth, PyData.depthAll, depthAll_ints]; decide)
end G
namespace G
open PySem PySem.Spec PyProof.Rows L2 PySem.W
/-! ### an operator by an own method of an instance -/
section
variable {X : Cx} {pins : List (Addr × Obj)} {σ : L2.St} {H : Hp} {s : Shared} {a b C C' dx dy g : Addr} {fs gs : List (Str × V)} {n : Nat} {sp : Sp} {E : XK} {fd : FuncData} {ps : List Str}
theorem ins_inst (I : Inv X pins σ H s) (h : H a = some (.ins C dx fs)) : ∃ od : Obj, PySem.W.InstAt s.heap a (PySem.W.instObj C dx) C (some od) := by
  obtain ⟨mA, O, _, _, _, _⟩ := ins_get I.hok h
  obtain ⟨od, ho, hl⟩ := lookIn_ns O.ns
  exact ⟨od, O.obj, rfl, rfl, ho⟩
def rOwnI (K : PySem.W.Frag) (C : Addr) (sp : Sp) (E : XK) : R2 := fun x y H Q => ∃ a dx fs b C' dy gs, x = .ref a ∧ y = .ref b ∧ H a = some (.ins C dx fs) ∧ H b = some (.ins C' dy gs) ∧ PySem.W.notFirst K C (.ref C') = true ∧ sp [x, y] H Q E
theorem cmpbackG {Pz : Value → Shared → Prop} {z : V} {v : Value} {s' : Shared} (r : RelV z v) (h : Pz v s') : PySem.W.CmpBack Pz v s' := by
  cases z <;> (first | (obtain ⟨t, rfl⟩ := r; exact h) | (cases r; exact h) | (cases v <;> first | exact h | exact r.elim | cases r))
theorem op_ownI {op : CmpOp} (hop : ∀ a b, compareOp op a b = richCompare op a b) (hs : PySem.W.findIn X.K (.ref C) (cmpInfo op).2.1 = some (some (.ref g))) (hf : PySem.W.isFn X.K (.ref g) = true) (F : FnOk X.prog X.w X.K X.mg X.base (L2.CX X.prog X.w) n g fd ps sp)
    (hr : Room n X.A) (hb : Binds X.K fd ps []) (hx : Passes (L2.CX X.prog X.w) X E) : OpR X (compareOp op) (rOwnI X.K C sp E) := by
  intro pins s σ H x y v u Q I rx ry h
  obtain ⟨a, dx, fs, b, C', dy, gs, rfl, rfl, ha, hb', hn, q⟩ := h
  cases (show v = Value.ref a from rx)
  cases (show u = Value.ref b from ry)
  obtain ⟨od, J⟩ := ins_inst I ha
  obtain ⟨od', J'⟩ := ins_inst I hb'
  obtain ⟨m, hF⟩ := I.fr
  rw [hop]
  refine PySem.W.cmp_K (op := op) (tb := .ref C') hr.units0 hF I.ok.mod.kin J J'.type hn hs hf ?_
  refine wpAny_mono (run_fn (us := [.ref a, .ref b]) (vs := [.ref a, .ref b]) F hr hb .nil hx I (.cons rfl (.cons rfl .nil)) q) (fun w s' z => ?_) fun _ _ x => x
  obtain ⟨z', H', I', rz, qz⟩ := z
  exact cmpbackG rz ⟨z', H', I', rz, qz⟩
end
end G
namespace G
open PySem PySem.Spec PyProof.Rows L2 PySem.W
/-- what isinstance, == and != ask of a class of the program -/
structure ClsX (K : PySem.W.Frag) (C : Addr) : Prop where
  ne : findIn K (.ref C) "__ne__" = some (some (.builtin "object.__ne__"))
  mro : mroIn K C (.type "object") = some true
  ca : findIn K (.ref C) "__class__" = some (some (.builtin "object.__class__"))
  sp : specialIn K (.builtin "object.__class__") "__get__" = some (some (.builtin "getset_descriptor.__get__"))
  tk : takesIn K (.builtin "object.__class__") = some true
section
variable {prog : Program} {w : World} {A : Around} {E : Value → Shared → Prop} {s : Shared} {K : PySem.W.Frag} {x C L f : Addr} {h₀ : Heap} {m : Str → Option Value} {ox : Obj} {od : Option Obj} {b tb : Value}
theorem ifBound_KB {M : Model} {name : Str} {id T : String} {args : List Value} {Q : Option Value → Shared → Prop} (X : K.In s.heap) (I : InstAt s.heap x ox C od) (hs : findIn K (.ref C) name = some (some (.builtin id))) (S : Slot T name id)
    (h : wpAny M A (call (.builtin id) (.ref x :: args)) (fun v => Q (some v)) E s) : wpAny M A (callSpecialIfBound? (.ref x) name args) Q E s := by
  simp only [callSpecialIfBound?, bindSpecialIfBound?]
  refine wpAny_holding (wpAny_bind (wpAny_bind (wpAny_bind (I.type.here ((looks_findIn X hs).here ?_)))))
  simp only [S.bind]
  refine wpAny_bind (wpAny_askSetting (wpAny_ite ?_))
  have fin : wpAny M A (call (.builtin id) ([.ref x] ++ args) >>= fun v => pure (some v)) Q E s := wpAny_bind (wpAny_mono h (fun v s' h' => wpAny_pure h') fun _ _ h' => h')
  split
  · exact wpAny_bind (wpAny_pure (wpAny_pure fin))
  · exact wpAny_tryCatch (wpAny_bind (wpAny_pure (wpAny_pure fin)))
theorem check_ne {M : Model} {Q : Unit → Shared → Prop} (X : K.In s.heap) (I : InstAt s.heap x ox C od) (hm : mroIn K C (.type "object") = some true) (hq : Q () s) : wpAny M A (checkBuiltinCall "object.__ne__" ⟨[.ref x, b], []⟩) Q E s := by
  have ha : argsOk "object.__ne__" ⟨.ref x :: [b], []⟩ := PySem.F.cmpArgs_ne _ _
  simp only [checkBuiltinCall, PySem.F.cmpKind_ne, PySem.F.cmpSplit_ne]
  refine wpAny_bind ?_
  unfold isInstance
  refine wpAny_bind (I.type.here ((looks_mroIn X hm).here ?_))
  cases hsig : Manifest.signature? "object.__ne__" with
  | none => exact wpAny_pure hq
  | some sig =>
    simp only [argsOk, hsig] at ha
    have h2 : Bind.checkArgs "object.__ne__" sig ⟨.ref x :: [b], []⟩ = pure () := ha
    show wpAny M A (Bind.checkArgs "object.__ne__" sig ⟨.ref x :: [b], []⟩) Q E _
    rw [h2]; exact wpAny_pure hq
theorem ne_entry (X : K.In s.heap) (I : InstAt s.heap x ox C od) (hs : findIn K (.ref C) "__eq__" = some (some (.ref f))) (hf : isFn K (.ref f) = true) (hu : A.units < cLine) {Q : Fin → Shared → Prop}
    (hcall : wpAny (model prog w) A (call (.ref f) [.ref x, b]) (fun v s' => ∃ b, v = .bool b ∧ Q (.done (.ret (.bool (!b)))) s') E s) :
    wpAny (model prog w) A (Builtin.«object.__ne__» ⟨[.ref x, b], []⟩) Q E s := by
  unfold Builtin.«object.__ne__»
  repeat (first
    | with_reducible refine wpAny_cRoomFor hu ?_
    | (refine wpAny_bind (m := callSpecialIfBound? (.ref x) (Str.ofString "__eq__") [b])
        (ifBound_K X I hs hf (wpAny_mono hcall (fun r s' hr => by
          obtain ⟨c, rfl, hq⟩ := hr
          repeat (first | exact hq | exact wpAny_pure hq | exact wpAny_truthy_bool hq | (refine wpAny_bind (m := truthy (.bool _)) (wpAny_truthy_bool ?_)) | wp_step)) fun _ _ e => e)))
    | wp_step)
theorem ne_K {Q : Value → Shared → Prop} (hu : A.units + 1 < cLine) (F : Fr h₀ L s.heap m) (X₀ : K.In h₀) (I : InstAt s.heap x ox C od) (hb : Looks (model prog w) s.heap (typeOf b) tb) (hn : notFirst K C tb = true)
    (hne : findIn K (.ref C) "__ne__" = some (some (.builtin "object.__ne__"))) (hmro : mroIn K C (.type "object") = some true)
    (hs : findIn K (.ref C) "__eq__" = some (some (.ref f))) (hf : isFn K (.ref f) = true)
    (h : wpAny (model prog w) A.in1 (call (.ref f) [.ref x, b]) (fun v s' => ∃ c, v = .bool c ∧ Q (.bool (!c)) s') E s) : wpAny (model prog w) A (richCompare .NotEq (.ref x) b) Q E s := by
  have X := X₀.keeps F.keep
  have one : wpAny (model prog w) A (tryCompare (.ref x) "__ne__" b) (fun r s' => ∃ v, r = some v ∧ Q v s') E s := by
    unfold tryCompare
    refine wpAny_bind (ifBound_KB X I hne PySem.F.cmp_object.ne (wpAny_call (codeAny_call_builtin PySem.F.cmp_object.ne.plain PySem.F.cmpEntry_ne (check_ne X I hmro (ne_entry (A := A.in1) X I hs hf hu (wpAny_mono h (fun v s' hv => ?_) fun _ _ e => e))))))
    obtain ⟨c, rfl, hq⟩ := hv
    first | exact ⟨c, rfl, wpAny_pure ⟨_, rfl, hq⟩⟩ | exact ⟨c, rfl, wpAny_pure (wpAny_pure ⟨_, rfl, hq⟩)⟩
  unfold richCompare
  simp only [oneThing_ref]
  refine wpAny_holding (wpAny_bind (wpAny_cRoomFor (Nat.lt_of_succ_lt hu) ?_))
  rw [cmpInfo_NotEq]
  dsimp only
  refine wpAny_bind (I.type.here (wpAny_bind (hb.here ?_)))
  split
  · rename_i q
    have e : subIn K tb (.ref C) = some false := by
      rcases Bool.or_eq_true_iff.mp hn with e | e
      · rw [beq_iff_eq.mp e] at q; simp at q
      · exact beq_iff_eq.mp e
    refine wpAny_bind ((looks_subIn X e).here ?_)
    simp only [Bool.false_eq_true, if_false]
    refine wpAny_bind (wpAny_mono one (fun r s' z => ?_) fun _ _ e => e)
    obtain ⟨v, rfl, hq⟩ := z
    exact wpAny_pure hq
  · refine wpAny_bind (wpAny_pure ?_)
    simp only [Bool.false_eq_true, if_false]
    refine wpAny_bind (wpAny_mono one (fun r s' z => ?_) fun _ _ e => e)
    obtain ⟨v, rfl, hq⟩ := z
    exact wpAny_pure hq
end
section
variable {X : Cx} {C g : Addr} {n k : Nat} {sp : Sp} {E : XK} {fd : FuncData} {ps : List Str}
/-- the thing on the right: an instance, or a thing of a built-in kind -/
def RightV (K : PySem.W.Frag) (C : Addr) (y : V) (H : Hp) : Prop := (∃ b C' dy gs, y = .ref b ∧ H b = some (.ins C' dy gs) ∧ PySem.W.notFirst K C (.ref C') = true) ∨ ∃ n, Thing K H y n ∧ PySem.W.notFirst K C (.type n) = true
def rOwnE (K : PySem.W.Frag) (C : Addr) (sp : Sp) (E : XK) : R2 := fun x y H Q => ∃ a dx fs, x = .ref a ∧ H a = some (.ins C dx fs) ∧ RightV K C y H ∧ sp [x, y] H Q E
def rOwnN (K : PySem.W.Frag) (C : Addr) (sp : Sp) (E : XK) : R2 := fun x y H Q => ∃ a dx fs, x = .ref a ∧ H a = some (.ins C dx fs) ∧ RightV K C y H ∧ sp [x, y] H (fun v H' => ∃ c, v = .bl c ∧ Q (.bl (!c)) H') E
theorem RightV.looks {pins : List (Addr × Obj)} {σ : L2.St} {H : Hp} {s : Shared} {y : V} {u : Value} (I : Inv X pins σ H s) (ry : RelV y u) (h : RightV X.K C y H) : ∃ tb, Looks (model X.prog X.w) s.heap (typeOf u) tb ∧ PySem.W.notFirst X.K C tb = true := by
  rcases h with ⟨b, C', dy, gs, rfl, hb, hn⟩ | ⟨n, th, hn⟩
  · cases (show u = Value.ref b from ry)
    obtain ⟨od', J'⟩ := ins_inst I hb
    exact ⟨_, J'.type, hn⟩
  · obtain ⟨P, Z, hP, _⟩ := kit_of I ry th.ty
    exact ⟨_, Z.ty _ _ I.kIn hP, hn⟩
theorem op_eqM (M : CalM X.prog X.w X.K X.mg X.base k C "__eq__" sp) (hr : Room k X.A) (hx : Passes (L2.CX X.prog X.w) X E) : OpR X (compareOp .Eq) (rOwnE X.K C sp E) := by
  obtain ⟨f, fd, ps, F, me, c, bn⟩ := M.ex
  intro pins s σ H x y v u Q I rx ry h
  obtain ⟨a, dx, fs, rfl, ha, hy, q⟩ := h
  cases (show v = Value.ref a from rx)
  obtain ⟨od, J⟩ := ins_inst I ha
  obtain ⟨tb, hb, hn⟩ := hy.looks I ry
  obtain ⟨m, hF⟩ := I.fr
  show wpAny _ _ (richCompare .Eq (.ref a) u) _ _ _
  refine PySem.W.cmp_K (op := .Eq) (tb := tb) hr.units0 hF I.ok.mod.kin J hb hn me.at_ me.fn ?_
  refine wpAny_mono (run_fn (us := [.ref a, u]) (vs := [.ref a, y]) F hr bn .nil hx I (.cons rfl (.cons ry .nil)) q) (fun w s' z => ?_) fun _ _ x => x
  obtain ⟨z', H', I', rz, qz⟩ := z
  exact cmpbackG rz ⟨z', H', I', rz, qz⟩
theorem op_neM (M : CalM X.prog X.w X.K X.mg X.base k C "__eq__" sp) (hne : PySem.W.findIn X.K (.ref C) "__ne__" = some (some (.builtin "object.__ne__"))) (hmro : PySem.W.mroIn X.K C (.type "object") = some true) (hr : Room (k + 1) X.A) (hx : Passes (L2.CX X.prog X.w) X E) :
    OpR X (compareOp .NotEq) (rOwnN X.K C sp E) := by
  obtain ⟨f, fd, ps, F, me, c, hb⟩ := M.ex
  intro pins s σ H x y v u Q I rx ry h
  obtain ⟨a, dx, fs, rfl, ha, hy, q⟩ := h
  cases (show v = Value.ref a from rx)
  obtain ⟨od, J⟩ := ins_inst I ha
  obtain ⟨tb, hbt, hn⟩ := hy.looks I ry
  obtain ⟨m, hF⟩ := I.fr
  show wpAny _ _ (richCompare .NotEq (.ref a) u) _ _ _
  refine ne_K (tb := tb) (by have := hr.units; omega) hF I.ok.mod.kin J hbt hn hne hmro me.at_ me.fn ?_
  have sb : Sub X (k + 1) X.A := ⟨hr, rfl⟩
  have sb1 := sb.in1
  have e0 : Env0 X.prog X.w X.K X.mg X.base X.A.in1 X.stack s H := by
    have e := I.env0
    exact ⟨by rw [sb1.fr]; exact e.frames, e.mod, e.bs, e.bsz, e.funs, e.frf, e.hok, e.bare⟩
  have hl := F.len _ _ _ _ q
  have r2 : Vals [V.ref a, y] [Value.ref a, u] := .cons rfl (.cons ry .nil)
  refine wpAny_call (codeAny_mono (F.run X.A.in1 X.stack s H ⟨[.ref a, u], []⟩ [.ref a, u] [.ref a, y] _ E sb1.room e0 (by
    have := hb s [.ref a, u] I.kIn (by simpa using hl)
    simpa using this) r2 q) fun r s' hq => ?_)
  cases r with
  | error e => exact hx pins σ H s e s' I hq
  | ok fl =>
    cases fl with
    | ret w =>
      obtain ⟨z, H', I', rz, c, ez, ex⟩ := I.after hq
      subst ez
      cases rz
      exact ⟨c, rfl, .bl (!c), H', I', rfl, ex⟩
    | next => exact False.elim hq
    | brk => exact False.elim hq
    | cont => exact False.elim hq
end
end G
namespace G
open PySem PySem.Spec PyProof.Rows L2
section
variable {mg : Str → Option Value} {E : List Ent} {H : Hp} {K : PySem.W.Frag} {p L W C : Addr} {m : Mac} {Q : VK}
/-- isinstance of a machine and its class -/
theorem g_isiM (h : Has E H) (r : mac mg p L W m ∈ E) (kC : mg "Machine" = some (.ref C)) (cl : Cls K C) (x : ClsX K C) (q : Q (.bl true) H) : rIsi K [.ref p, .ref C] H Q := by
  obtain ⟨dx, hp⟩ := MacAt.insC (h.get r) kC
  refine ⟨.ref p, .ref C, .ref C, .ref C, true, rfl, .own C, .base (.ins hp cl x.ca x.sp x.tk x.mro), ?_, q⟩
  unfold PySem.W.kitOne
  rw [if_pos (beq_self_eq_true _)]
theorem notFirst_self (K : PySem.W.Frag) (C : Addr) : PySem.W.notFirst K C (.ref C) = true := by simp [PySem.W.notFirst]
theorem g_ownE {sp : Sp} {X : XK} {p2 L2 W2 : Addr} {m2 : Mac} (h : Has E H) (r : mac mg p L W m ∈ E) (r2 : mac mg p2 L2 W2 m2 ∈ E) (kC : mg "Machine" = some (.ref C)) (q : sp [.ref p, .ref p2] H Q X) : rOwnE K C sp X (.ref p) (.ref p2) H Q := by
  obtain ⟨dx, hp⟩ := MacAt.insC (h.get r) kC
  obtain ⟨dx2, hp2⟩ := MacAt.insC (h.get r2) kC
  exact ⟨p, dx, _, rfl, hp, .inl ⟨p2, C, dx2, _, rfl, hp2, notFirst_self K C⟩, q⟩
theorem g_ownN {sp : Sp} {X : XK} {p2 L2 W2 : Addr} {m2 : Mac} (h : Has E H) (r : mac mg p L W m ∈ E) (r2 : mac mg p2 L2 W2 m2 ∈ E) (kC : mg "Machine" = some (.ref C)) (q : sp [.ref p, .ref p2] H (fun v H' => ∃ c, v = .bl c ∧ Q (.bl (!c)) H') X) : rOwnN K C sp X (.ref p) (.ref p2) H Q := by
  obtain ⟨dx, hp⟩ := MacAt.insC (h.get r) kC
  obtain ⟨dx2, hp2⟩ := MacAt.insC (h.get r2) kC
  exact ⟨p, dx, _, rfl, hp, .inl ⟨p2, C, dx2, _, rfl, hp2, notFirst_self K C⟩, q⟩
end
end G
namespace G
open PySem PySem.Spec PyProof.Rows L2
/-! ### a comprehension that makes things -/
section
variable {σ : L2.St} {H : Hp} {Q : VK} {K : PySem.W.Frag} {E : List Ent} {g : TG}
def LcP2 (D : Addr) (P : Nat → List V → List Ent → Prop) (i : Nat) (H : Hp) : Prop := ∃ acc Ex, acc.length ≤ i ∧ P i acc Ex ∧ Has (cel D (.lst acc) :: Ex) H
def LcE2 (D : Addr) (P : Nat → List V → List Ent → Prop) (i : Nat) (y : V) (H4 : Hp) : Prop := ∃ acc, H4 D = some (.lst acc) ∧ acc.length < sizeLine ∧ LcP2 D P (i + 1) (upd H4 D (.lst (acc ++ [y])))
theorem lcE2 {D : Addr} {P : Nat → List V → List Ent → Prop} {i : Nat} {y : V} {acc : List V} {Ex : List Ent} (h : Has (cel D (.lst acc) :: Ex) H) (l : acc.length ≤ i) (z : i < sizeLine) (p : P (i + 1) (acc ++ [y]) Ex) : LcE2 D P i y H :=
  ⟨acc, h.head, by omega, acc ++ [y], Ex, by rw [List.length_append]; exact Nat.succ_le_succ l, p, h.put⟩
theorem lcV {J : It} {n : Nat} {Gs : Hp → Prop} {Y : Nat → Hp → V → Hp → Prop} {tt : TT} {te : TE} {vs : List Nat} (w : Walk J n Gs Y) (P : Nat → List V → List Ent → Prop) (h : Has E H) (p0 : P 0 [] E) (hG : ∀ i acc Ex H, P i acc Ex → Has Ex H → Gs H)
    (hs : ∀ D i acc Ex x H H', i < n → acc.length ≤ i → P i acc Ex → Has (cel D (.lst acc) :: Ex) H → Y i H x H' → g x (wipe σ vs) H' fun σ2 H2 => wipe σ2 vs = wipe σ vs ∧ tt σ2 H2 fun b H3 => if b = true then te σ2 H3 fun y H4 => LcE2 D P i y H4 else LcP2 D P (i + 1) H3)
    (hd : ∀ D acc Ex H', H D = none → acc.length ≤ n → P n acc Ex → Has (cel D (.lst acc) :: Ex) H' → Q (.ref D) H') : rLc J g tt te vs σ H Q := by
  intro D hD
  exact lc_it w (LcP2 D P) ⟨[], E, Nat.le_refl _, p0, h.new hD⟩ (fun i H' _ ⟨acc, Ex, _, p, hh⟩ => hG i acc Ex _ p hh.tail) (fun i x H1 H2 hi ⟨acc, Ex, hl, p, hh⟩ hy => hs D i acc Ex x H1 H2 hi hl p hh hy) (fun H' ⟨acc, Ex, l, p, hh⟩ => hd D acc Ex H' hD l p hh)
/-- two of a kind -/
def Twice (o : HO) (E : List Ent) : Nat → List V → List Ent → Prop
  | 0, acc, Ex => acc = [] ∧ Ex = E
  | 1, acc, Ex => ∃ t, acc = [.ref t] ∧ Ex = cel t o :: E
  | _, acc, Ex => ∃ t u, acc = [.ref t, .ref u] ∧ Ex = cel t o :: cel u o :: E
theorem Twice.step {o : HO} {E Ex : List Ent} {i : Nat} {acc : List V} {D u : Addr} {H : Hp} (hi : i < 2) (p : Twice o E i acc Ex) (h : Has (cel D (.lst acc) :: cel u o :: Ex) H) (l : acc.length ≤ i) : LcE2 D (Twice o E) i (.ref u) H := by
  match i, hi, p with
  | 0, _, p =>
    obtain ⟨rfl, rfl⟩ := p
    exact lcE2 h l (sl_mil (by decide)) ⟨u, rfl, rfl⟩
  | 1, _, p =>
    obtain ⟨t, rfl, rfl⟩ := p
    exact lcE2 (h.perm (.cons _ (.swap _ _ _))) l (sl_mil (by decide)) ⟨t, u, rfl, rfl⟩
def twoD (ns : List Int) : PyData := .list [.tuple (ns.map .int), .tuple (ns.map .int)]
theorem dp_twoE {ns : List Int} {D t u : Addr} (h : Has E H) (r : cel D (.lst [.ref t, .ref u]) ∈ E) (r1 : cel t (.tup (ns.map V.int)) ∈ E) (r2 : cel u (.tup (ns.map V.int)) ∈ E) : Dp K H (.ref D) (twoD ns) :=
  .lst (SqL.of (h.at r)) (.cons (dpT_intsE h r1) (.cons (dpT_intsE h r2) .nil))
theorem fine_two {ns : List Int} (h : ∀ n ∈ ns, n.natAbs < 10 ^ 12) (l : ns.length ≤ 100000) : Fine (twoD ns) := by
  have h1 := bulkAll_ints ns
  have h2 := depthAll_ints ns
  refine ⟨by simp only [twoD, fine, fineAll, fineAll_ints h, Bool.and_self], ?_, ?_⟩
  · simp only [twoD, PyData.depth, PyData.depthAll, h2]
    decide
  · simp only [twoD, PyData.bulk, PyData.bulkAll]
    have : (2 : Nat) ^ 20 = 1048576 := by decide
    omega
end
theorem btw_out {i lo hi : Int} (h : i < lo ∨ hi < i) : btwV (.int i) lo hi = false := by
  simp only [btwV, Bool.and_eq_false_iff, decide_eq_false_iff_not]
  omega
theorem neS_self (x : Str) : (!decide (x = x)) = false := by rw [decide_eq_true rfl]; rfl
theorem neT_self (ns : List Int) : (!(PyData.tuple (ns.map .int)).eqv (.tuple (ns.map .int))) = false := by rw [eqv_self (shapedT_ints _)]; rfl
theorem neq_self {d : PyData} (h : SeqAt.shaped d = true) : (!d.eqv d) = false := by rw [eqv_self h]; rfl
end G
namespace G
open PySem PySem.Spec PyProof.Rows L2
/-! ### dicts whose keys are ints and texts -/
theorem u1 {n c : Nat} (h : n + 64 < c) : n + 1 < c := by omega
section
variable {σ : L2.St} {H : Hp} {Q : VK} {D : Ends} {td ty tx tv : TE} {E E1 : List Ent} {p : Addr} {kvs : List (Key × V)} {v : V}
def rDGet (x y : V) (H : Hp) (Q : VK) : Prop := ∃ a v, x = .ref a ∧ DGet H a y (some v) ∧ Q v H
def rDPut (x y v : V) (H : Hp) (q : Hp → Prop) : Prop := ∃ a H4, x = .ref a ∧ DPut H a y v H4 ∧ q H4
theorem g_dget (h : td σ H fun x H1 => ty σ H1 fun y H2 => rDGet x y H2 Q) : tDGet td ty σ H Q := h
instance i_g_dget : Lk (tDGet td ty σ H Q) (td σ H fun x H1 => ty σ H1 fun y H2 => rDGet x y H2 Q) := ⟨g_dget⟩
theorem g_dput {nx : L2.St → Hp → Prop} {rt : VK} {bk ct : L2.St → Hp → Prop} (h : tv σ H fun v H1 => td σ H1 fun x H2 => ty σ H2 fun y H3 => rDPut x y v H3 fun H4 => nx σ H4) : sDPut td ty tv ⟨nx, rt, bk, ct⟩ σ H := by
  have h' : tv σ H fun v H1 => td σ H1 fun x H2 => ty σ H2 fun y H3 => ∃ a H4, x = .ref a ∧ DPut H3 a y v H4 ∧ nx σ H4 := h
  exact h'
instance i_g_dput {nx : L2.St → Hp → Prop} {rt : VK} {bk ct : L2.St → Hp → Prop} : Lk (sDPut td ty tv ⟨nx, rt, bk, ct⟩ σ H) (tv σ H fun v H1 => td σ H1 fun x H2 => ty σ H2 fun y H3 => rDPut x y v H3 fun H4 => nx σ H4) := ⟨g_dput⟩
theorem g_dget2 (h : td σ H fun x H1 => ∃ a, x = .ref a ∧ IsD H1 a ∧ ty σ H1 fun y H2 => tx σ H2 fun z H3 => ∃ o, DGet H3 a y o ∧ Q (o.getD z) H3) : tDGet2 td ty tx σ H Q := h
instance i_g_dget2 : Lk (tDGet2 td ty tx σ H Q) (td σ H fun x H1 => ∃ a, x = .ref a ∧ IsD H1 a ∧ ty σ H1 fun y H2 => tx σ H2 fun z H3 => ∃ o, DGet H3 a y o ∧ Q (o.getD z) H3) := ⟨g_dget2⟩
theorem g_dgS {x : Str} (h : Has E H) (m : cel p (.dK kvs) ∈ E) (e : valV kvs (.inr x) = some v) (q : Q v H) : rDGet (.ref p) (.str x) H Q :=
  ⟨p, v, rfl, by rw [← e]; exact DGet.k (k := .inr x) (h.at m), q⟩
theorem g_dgI {i : Int} (h : Has E H) (m : cel p (.dK kvs) ∈ E) (e : valV kvs (.inl i) = some v) (q : Q v H) : rDGet (.ref p) (.int i) H Q :=
  ⟨p, v, rfl, by rw [← e]; exact DGet.k (k := .inl i) (h.at m), q⟩
theorem g_isD {R : Addr → Prop} (h : Has E H) (m : cel p (.dK kvs) ∈ E) (q : R p) : ∃ a, V.ref p = .ref a ∧ IsD H a ∧ R a := ⟨p, rfl, .inl ⟨kvs, .inl (h.at m)⟩, q⟩
theorem g_dpS {x : Str} {q : Hp → Prop} (h : Has E H) (r : Rem (cel p (.dK kvs)) E E1) (l : kvs.length ≤ 100) (k : ∀ H', Has (cel p (.dK (putK kvs (.inr x) v)) :: E1) H' → q H') : rDPut (.ref p) (.str x) v H q :=
  ⟨p, _, rfl, DPut.k (k := .inr x) (h.rem r).head (Nat.lt_of_le_of_lt l (by decide)), k _ (h.rem r).put⟩
/-- a display: the dict stands, empty, while its pairs are made -/
theorem g_disp {trs : List (TE × TE)} (h : Has E H) (k : ∀ p H', H p = none → Has (cel p (.dK []) :: E) H' → tPairs trs σ H' fun ps H2 => H2 p = some (.dK []) ∧ ∃ kvs : List (Key × V), ps = kvs.map (fun kv => (kV kv.1, kv.2)) ∧ kvs.length ≤ 15 ∧ Q (.ref p) (upd H2 p (.dK (mergeK [] kvs)))) : tDisp trs σ H Q :=
  fun p f => k p _ f (h.new f)
theorem g_pairs {tk tv : TE} {r : List (TE × TE)} {q : List (V × V) → Hp → Prop} (h : tk σ H fun x H1 => tv σ H1 fun y H2 => tPairs r σ H2 fun ps H3 => q ((x, y) :: ps) H3) : tPairs ((tk, tv) :: r) σ H q := h
instance i_g_pairs {tk tv : TE} {r : List (TE × TE)} {q : List (V × V) → Hp → Prop} : Lk (tPairs ((tk, tv) :: r) σ H q) (tk σ H fun x H1 => tv σ H1 fun y H2 => tPairs r σ H2 fun ps H3 => q ((x, y) :: ps) H3) := ⟨g_pairs⟩
theorem g_pairs0 {q : List (V × V) → Hp → Prop} (h : q [] H) : tPairs [] σ H q := h
instance i_g_pairs0 {q : List (V × V) → Hp → Prop} : Lk (tPairs [] σ H q) (q [] H) := ⟨g_pairs0⟩
/-- .. the keys apart: as it was written -/
theorem merge_apart : ∀ {kvs acc : List (Key × V)}, (kvs.map (·.1)).Nodup → (∀ k ∈ kvs.map (·.1), k ∉ acc.map (·.1)) → mergeK acc kvs = acc ++ kvs
  | [], acc, _, _ => by show acc = acc ++ []; rw [List.append_nil]
  | p :: r, acc, n, d => by
    rw [List.map_cons, List.nodup_cons] at n
    have e : putK acc p.1 p.2 = acc ++ [p] := by
      unfold putK
      rw [if_neg]
      intro z
      obtain ⟨q, hq, e⟩ := List.any_eq_true.mp z
      exact d p.1 (by simp) (List.mem_map.mpr ⟨q, hq, of_decide_eq_true e⟩)
    show mergeK (putK acc p.1 p.2) r = _
    rw [e, merge_apart n.2 (fun k hk z => ?_), List.append_assoc]
    · rfl
    · rw [List.map_append] at z
      rcases List.mem_append.mp z with z | z
      · exact d k (by simp [hk]) z
      · rw [List.map_cons, List.map_nil, List.mem_singleton] at z
        rw [z] at hk
        exact n.1 hk
theorem merge_new {kvs : List (Key × V)} (n : (kvs.map (·.1)).Nodup) : mergeK [] kvs = kvs := by rw [merge_apart n (fun _ _ z => by cases z), List.nil_append]
/-- the keys of a display -/
inductive KeysV : List (V × V) → List (Key × V) → List Key → Prop where
  | nil : KeysV [] [] []
  | str {x : Str} {v : V} {ps kvs ks} : KeysV ps kvs ks → KeysV ((.str x, v) :: ps) ((.inr x, v) :: kvs) (.inr x :: ks)
  | int {i : Int} {v : V} {ps kvs ks} : KeysV ps kvs ks → KeysV ((.int i, v) :: ps) ((.inl i, v) :: kvs) (.inl i :: ks)
theorem KeysV.eq {ps : List (V × V)} {kvs : List (Key × V)} {ks : List Key} (h : KeysV ps kvs ks) : (ps = kvs.map fun kv => (kV kv.1, kv.2)) ∧ kvs.map (·.1) = ks := by
  induction h with
  | nil => exact ⟨rfl, rfl⟩
  | str _ ih => exact ⟨by rw [ih.1]; rfl, by rw [List.map_cons, ih.2]⟩
  | int _ ih => exact ⟨by rw [ih.1]; rfl, by rw [List.map_cons, ih.2]⟩
theorem g_dispE {ps : List (V × V)} {ks : List Key} (h : Has E H) (r : Rem (cel p (.dK [])) E E1) (kk : KeysV ps kvs ks) (n : ks.Nodup) (l : ks.length ≤ 15) (k : ∀ H', Has (cel p (.dK kvs) :: E1) H' → Q (.ref p) H') :
    H p = some (.dK []) ∧ ∃ kvs : List (Key × V), ps = kvs.map (fun kv => (kV kv.1, kv.2)) ∧ kvs.length ≤ 15 ∧ Q (.ref p) (upd H p (.dK (mergeK [] kvs))) := by
  obtain ⟨e1, e2⟩ := kk.eq
  refine ⟨(h.rem r).head, kvs, e1, by rw [← List.length_map (f := (·.1)), e2]; exact l, ?_⟩
  rw [merge_new (by rw [e2]; exact n)]
  exact k _ (h.rem r).put
/-- .. and goes on -/
theorem g_dispR {ps : List (V × V)} {ks : List Key} {R : List (Key × V) → Prop} (h : Has E H) (r : Rem (cel p (.dK [])) E E1) (kk : KeysV ps kvs ks) (n : ks.Nodup) (l : ks.length ≤ 15) (k : Has (cel p (.dK kvs) :: E1) (upd H p (.dK (mergeK [] kvs))) → R kvs) :
    H p = some (.dK []) ∧ ∃ kvs : List (Key × V), ps = kvs.map (fun kv => (kV kv.1, kv.2)) ∧ kvs.length ≤ 15 ∧ R kvs := by
  obtain ⟨e1, e2⟩ := kk.eq
  refine ⟨(h.rem r).head, kvs, e1, by rw [← List.length_map (f := (·.1)), e2]; exact l, k ?_⟩
  rw [merge_new (by rw [e2]; exact n)]
  exact (h.rem r).put
end
/-! ### a machine of a law, as a dict -/
def stK (L W : Addr) (m : Mac) : List (Key × V) := [(.inr "cells", .ref L), (.inr "place", .int m.place), (.inr "hand", .int m.hand), (.inr "text", .str m.text), (.inr "read", .int m.read), (.inr "written", .ref W), (.inr "ended", .bl m.ended)]
section
variable {L W : Addr} {m : Mac}
theorem st_cells : valV (stK L W m) (.inr "cells") = some (.ref L) := rfl
theorem st_place : valV (stK L W m) (.inr "place") = some (.int m.place) := rfl
theorem st_hand : valV (stK L W m) (.inr "hand") = some (.int m.hand) := rfl
theorem st_text : valV (stK L W m) (.inr "text") = some (.str m.text) := rfl
theorem st_read : valV (stK L W m) (.inr "read") = some (.int m.read) := rfl
theorem st_written : valV (stK L W m) (.inr "written") = some (.ref W) := rfl
theorem st_ended : valV (stK L W m) (.inr "ended") = some (.bl m.ended) := rfl
theorem pt_place {i : Int} : putK (stK L W m) (.inr "place") (.int i) = stK L W { m with place := i } := rfl
theorem pt_hand {i : Int} : putK (stK L W m) (.inr "hand") (.int i) = stK L W { m with hand := i } := rfl
theorem pt_read {n : Nat} : putK (stK L W m) (.inr "read") (.int (n : Int)) = stK L W { m with read := n } := rfl
theorem pt_ended {b : Bool} : putK (stK L W m) (.inr "ended") (.bl b) = stK L W { m with ended := b } := rfl
theorem st_len : (stK L W m).length ≤ 100 := by show 7 ≤ 100; decide
end
/-- the next sign as a text -/
theorem next_cut {m : Mac} (h : m.Wf) : (cutS m.text (some (m.read : Int)) (some ((m.read : Int) + 1))).cps.toList = (m.text.cps.toList.drop m.read).take 1 := by
  have hl : m.text.cps.toList.length = m.text.length := Array.length_toList
  have hr := h.read
  have e1 : HT.sIx m.text.length 0 (some (m.read : Int)) = m.read := by
    unfold HT.sIx
    simp only
    split <;> omega
  unfold cutS
  rw [e1, List.toList_toArray]
  by_cases e : m.read = m.text.length
  · rw [List.drop_eq_nil_of_le (by omega), List.take_nil, List.take_nil]
  · have e2 : HT.sIx m.text.length m.text.length (some ((m.read : Int) + 1)) = m.read + 1 := by
      unfold HT.sIx
      simp only
      split <;> omega
    rw [e2, Nat.add_sub_cancel_left]
theorem next_end {m : Mac} (h : m.Wf) (e : m.read = m.text.length) : cutS m.text (some (m.read : Int)) (some ((m.read : Int) + 1)) = "" := by
  have hl : m.text.cps.toList.length = m.text.length := Array.length_toList
  have z := next_cut h
  rw [List.drop_eq_nil_of_le (by omega), List.take_nil] at z
  generalize cutS m.text (some (m.read : Int)) (some ((m.read : Int) + 1)) = x at z
  obtain ⟨c⟩ := x
  have z2 : c = #[] := by
    have : c.toList = [] := z
    simpa using this
  rw [z2]
  rfl
theorem next_on {m : Mac} (h : m.Wf) (e : m.read ≠ m.text.length) : (cutS m.text (some (m.read : Int)) (some ((m.read : Int) + 1))).length = 1 ∧ (((cutS m.text (some (m.read : Int)) (some ((m.read : Int) + 1))).cps.getD 0 0 : Nat) : Int) = m.sign := by
  have hl : m.text.cps.toList.length = m.text.length := Array.length_toList
  have hr := h.read
  have z := next_cut h
  have hs := h.signAt e
  rw [List.drop_eq_getElem_cons (by omega), List.take_succ_cons, List.take_zero] at z
  have hg : m.text.cps.toList[m.read]'(by omega) = m.text.cps.toList.getD m.read 0 := by
    obtain ⟨_, q⟩ := List.getElem?_eq_some_iff.mp hs
    exact q
  generalize cutS m.text (some (m.read : Int)) (some ((m.read : Int) + 1)) = x at z ⊢
  obtain ⟨c⟩ := x
  have z2 : c = #[m.text.cps.toList.getD m.read 0] := by
    have : c.toList = [m.text.cps.toList.getD m.read 0] := by rw [← hg]; exact z
    exact Array.toList_inj.mp (by rw [this])
  rw [z2]
  exact ⟨rfl, rfl⟩
end G
namespace G
open PySem PySem.Spec PyProof.Rows L2
/-! ### what done_by tells, and an image with its text, as data that repr shows -/
theorem fineS {x : Str} (h : ∀ c ∈ x.cps.toList, c ≤ 65535) : fine (.str x) = true := by
  simp only [fine, Bool.and_eq_true]
  exact ⟨strOk_of h, List.all_eq_true.mpr fun c hc => decide_eq_true (Nat.lt_of_le_of_lt (h c hc) (by decide))⟩
theorem fine_said (b : Bool) : fine (.str (if b = true then "ended" else "later")) = true := by cases b <;> decide +kernel
theorem wr_ok {m : Mac} (h : m.Wf) : ∀ n ∈ m.written, n.natAbs < 10 ^ 12 := fun n hn => by
  obtain ⟨a, b⟩ := h.written n hn
  omega
theorem fine_done0 {m : Mac} (h : m.Wf) : fine (doneD m) = true := by
  simp only [doneD, fine, fineAll, Bool.and_true]
  have := fine_said m.ended
  simp only [fine] at this
  rw [this, fineAll_ints (wr_ok h)]
  rfl
theorem depth_done (m : Mac) : (doneD m).depth = 2 := by
  simp only [doneD, PyData.depth, PyData.depthAll, depthAll_ints]
  rfl
theorem bulk_done (m : Mac) : (doneD m).bulk ≤ m.written.length + 30 := by
  have := bulkAll_ints m.written
  have e : (PyData.str (if m.ended = true then "ended" else "later")).bulk ≤ 10 := by cases m.ended <;> decide +kernel
  simp only [doneD, PyData.bulk, PyData.bulkAll] at e ⊢
  omega
theorem fine_done {m : Mac} {b : Nat} (h : MacB m b) (l : b ≤ 200000) : Fine (doneD m) := by
  have e : (2 : Nat) ^ 20 = 1048576 := by decide
  have := h.wl
  refine ⟨fine_done0 h.wf, ?_, ?_⟩
  · rw [depth_done]; decide
  · have := bulk_done m; omega
def twoDn (m : Mac) : PyData := .list [doneD m, doneD m]
theorem fine_twoDn {m : Mac} {b : Nat} (h : MacB m b) (l : b ≤ 200000) : Fine (twoDn m) := by
  have e : (2 : Nat) ^ 20 = 1048576 := by decide
  have := h.wl
  refine ⟨by simp only [twoDn, fine, fineAll, fine_done0 h.wf, Bool.and_self], ?_, ?_⟩
  · simp only [twoDn, PyData.depth, PyData.depthAll, depth_done]; decide
  · have := bulk_done m
    simp only [twoDn, PyData.bulk, PyData.bulkAll]
    omega
def imgD (ws : List Int) (x : Str) : PyData := .tuple [.tuple (ws.map .int), .str x]
theorem fine_imgD {ws : List Int} {x : Str} (lx : x.length ≤ 1000) (h : ∀ n ∈ ws, n.natAbs < 10 ^ 12) (l : ws.length ≤ 100000) (hx : ∀ c ∈ x.cps.toList, c ≤ 65535) : Fine (imgD ws x) := by
  have h1 := bulkAll_ints ws
  have h2 := depthAll_ints ws
  have h3 := fineS hx
  have lx2 : x.cps.size ≤ 1000 := lx
  have e : (2 : Nat) ^ 20 = 1048576 := by decide
  refine ⟨by simp only [imgD, fine, fineAll, fineAll_ints h, Bool.and_true, Bool.true_and] at h3 ⊢; exact h3, ?_, ?_⟩
  · simp only [imgD, PyData.depth, PyData.depthAll, h2]; decide
  · simp only [imgD, PyData.bulk, PyData.bulkAll]; omega
section
variable {K : PySem.W.Frag} {E E1 : List Ent} {H : Hp}
theorem dp_img {ws : List Int} {x : Str} {l t : Addr} (h : Has E H) (r : cel l (.tup [.ref t, .str x]) ∈ E) (r2 : cel t (.tup (ws.map V.int)) ∈ E) : Dp K H (.ref l) (imgD ws x) :=
  dp_tupE h r (.cons (dpT_intsE h r2) (.cons (.str _) .nil))
def doneS (m : Mac) : V := .str (if m.ended = true then "ended" else "later")
/-- two results of done_by -/
def TwiceD (m : Mac) (E : List Ent) : Nat → List V → List Ent → Prop
  | 0, acc, Ex => acc = [] ∧ Ex = E
  | 1, acc, Ex => ∃ t w, acc = [.ref t] ∧ Ex = cel t (.tup [doneS m, .ref w]) :: cel w (.tup (m.written.map V.int)) :: E
  | _, acc, Ex => ∃ t w t2 w2, acc = [.ref t, .ref t2] ∧ Ex = cel t (.tup [doneS m, .ref w]) :: cel w (.tup (m.written.map V.int)) :: cel t2 (.tup [doneS m, .ref w2]) :: cel w2 (.tup (m.written.map V.int)) :: E
theorem TwiceD.step0 {m : Mac} {Ex : List Ent} {acc : List V} {D t w : Addr} (p : TwiceD m E 0 acc Ex) (h : Has (cel D (.lst acc) :: cel t (.tup [doneS m, .ref w]) :: cel w (.tup (m.written.map V.int)) :: Ex) H) (l : acc.length ≤ 0) : LcE2 D (TwiceD m E) 0 (.ref t) H := by
  obtain ⟨rfl, rfl⟩ := p
  exact lcE2 h l (sl_mil (by decide)) ⟨t, w, rfl, rfl⟩
theorem TwiceD.step1 {m : Mac} {acc : List V} {D t w t1 w1 : Addr} (e : acc = [.ref t1]) (h : Has (cel D (.lst acc) :: cel t1 (.tup [doneS m, .ref w1]) :: cel w1 (.tup (m.written.map V.int)) :: cel t (.tup [doneS m, .ref w]) :: cel w (.tup (m.written.map V.int)) :: E) H) : LcE2 D (TwiceD m E) 1 (.ref t) H := by
  subst e
  exact lcE2 h (Nat.le_refl 1) (sl_mil (by decide)) ⟨t1, w1, t, w, rfl, rfl⟩
theorem dp_twoDn {m : Mac} {D t w t2 w2 : Addr} (h : Has E H) (r : cel D (.lst [.ref t, .ref t2]) ∈ E) (r1 : cel t (.tup [doneS m, .ref w]) ∈ E) (r2 : cel w (.tup (m.written.map V.int)) ∈ E) (r3 : cel t2 (.tup [doneS m, .ref w2]) ∈ E) (r4 : cel w2 (.tup (m.written.map V.int)) ∈ E) : Dp K H (.ref D) (twoDn m) :=
  dp_lstE h r (.cons (dp_done h r1 r2) (.cons (dp_done h r3 r4) .nil))
end
end G
/-! ### the heap, looked up -/
local macro_rules | `(tactic| fail "hp") => `(tactic| first
  | assumption
  | exact L2.upd_same
  | (refine G.upd_old ?_ ?_ <;> first | assumption | fail "hp")
  | (refine G.upd_oth ?_ ?_ <;> first | assumption | (apply Ne.symm; assumption) | fail "hp"))
/-! ### the reading, step by step -/
local macro_rules | `(tactic| fail "rd1") => `(tactic| first
  | refine ⟨_, rfl, ?_⟩
  | refine ⟨_, _, rfl, rfl, ?_⟩
  | refine ⟨_, _, rfl, ?_⟩
  | refine ⟨by decide, ?_⟩
  | refine ⟨⟨by decide, by decide⟩, ?_⟩
  | refine ⟨⟨by decide, by decide, by decide⟩, ?_⟩
  | refine ⟨.inr ⟨by decide, by decide⟩, ?_⟩
  | refine ⟨.inl ⟨by decide, by decide⟩, ?_⟩)
local macro_rules | `(tactic| fail "rd") => `(tactic| repeat fail "rd1")
/-! ### the steps of a reading, by themselves -/
local macro_rules | `(tactic| fail "mem") => `(tactic| with_reducible first | exact List.mem_cons_self | (refine List.mem_cons_of_mem _ ?_; fail "mem"))
local macro_rules | `(tactic| fail "rem") => `(tactic| with_reducible first | exact G.Rem.here | (apply G.Rem.there; fail "rem"))
local macro_rules | `(tactic| fail "suf") => `(tactic| with_reducible first | exact G.Suf.refl | (refine G.Suf.cons ?_; fail "suf"))
local macro_rules | `(tactic| fail "setat") => `(tactic| first | exact G.SetAt.zero | (apply G.SetAt.succ; fail "setat"))
local macro_rules | `(tactic| fail "sd") => `(tactic| first | omega | assumption | decide | rfl | exact Nat.le_of_ble_eq_true rfl | (refine ⟨?_, ?_⟩ <;> fail "sd") | (refine Or.inl ?_; fail "sd") | (refine Or.inr ?_; fail "sd"))
local macro_rules | `(tactic| fail "rg") => `(tactic| first | omega | assumption | (refine ⟨?_, ?_⟩ <;> first | omega | assumption))
local macro_rules | `(tactic| fail "len") => `(tactic| first | exact Nat.le_of_ble_eq_true rfl | decide | omega | assumption | (simp only [List.length_append, List.length_map, List.length_cons, List.length_nil, List.length_replicate]; omega))
/- a truth value -/
local macro_rules | `(tactic| fail "tt") => `(tactic| first | rfl | assumption | (with_reducible refine decide_eq_true ?_; omega) | (with_reducible refine Bool.not_eq_true' _ |>.mpr ?_; fail "ff"))
local macro_rules | `(tactic| fail "ff") => `(tactic| first | rfl | assumption | (with_reducible refine decide_eq_false ?_; omega) | (with_reducible refine Bool.not_eq_false' _ |>.mpr ?_; fail "tt"))
local macro_rules | `(tactic| fail "g") => `(tactic| first
  | with_reducible first
    | refine G.g_seq ?_ | refine G.g_asg ?_ | refine G.g_next ?_ | refine G.g_drop ?_ | refine G.g_ret ?_ | refine G.g_ifS ?_ | refine G.g_par ?_ | refine G.g_par2 ?_
    | refine G.g_C ?_ | refine G.g_op ?_ | refine G.g_un ?_ | refine G.g_cons ?_ | refine G.g_nil ?_ | refine G.g_call ?_ | refine G.g_CB ?_ | refine G.g_tup ?_ | refine G.g_lst ?_
    | refine G.g_bl ?_ | refine G.g_int ?_ | refine G.g_str ?_ | refine G.g_T ?_ | refine G.g_B ?_ | refine G.g_not ?_ | refine G.g_and ?_ | refine G.g_or ?_ | refine G.g_if ?_ | refine G.g_andV ?_ | refine G.g_orV ?_ | refine G.g_notV ?_ | refine G.g_chain ?_
    | refine G.g_rI0 ?_ | refine G.g_rU ?_ | refine G.g_eqI ?_ | refine G.g_neI ?_ | refine G.g_eqS ?_ | refine G.g_neS ?_ | refine G.g_eqB ?_ | refine G.g_neB ?_ | refine G.g_ip ?_ | refine G.g_isN ?_ | refine G.g_notN ?_
    | refine G.g_sl ?_ | refine G.g_noPart ?_ | refine G.g_part ?_ | refine G.g_bm ?_ | refine G.g_bm0 ?_ | refine G.g_gNil ?_ | refine G.g_gCons ?_ | refine G.g_gSub ?_ | refine G.g_break ?_ | refine G.g_cont ?_ | refine G.g_retN ?_ | refine G.g_yes ?_ | refine G.g_callD ?_ | refine G.g_fld ?_ | refine G.g_tyS ?_
  | ((with_reducible apply G.g_var); (exact rfl))
  | ((with_reducible apply G.g_name); (fail "setat"))
  | ((with_reducible apply G.g_rI); (fail "sd"))
  | ((with_reducible apply G.g_rTup); (assumption); (fail "len"); intro _ _ _ _)
  | ((with_reducible apply G.g_rLst); (assumption); (fail "len"); intro _ _ _ _)
  | ((with_reducible apply G.g_tyL); (assumption); (fail "mem"))
  | ((with_reducible apply G.g_ixL); (assumption); (fail "mem"); (exact rfl))
  | ((with_reducible apply G.g_ixT); (assumption); (fail "mem"); (exact rfl))
  | ((with_reducible apply G.g_append); (assumption); (fail "rem"); (fail "len"); intro _ _)
  | ((with_reducible apply G.g_gTup); (assumption); (fail "mem"); (exact rfl))
  | ((with_reducible apply G.g_aug); (exact rfl))
  | ((with_reducible apply G.brT); (fail "tt"))
  | ((with_reducible apply G.brF); (fail "ff")))
local macro_rules | `(tactic| fail "go") => `(tactic| repeat fail "g")
/- data of values -/
local macro_rules | `(tactic| fail "dp") => `(tactic| first
  | exact L2.Dp.int _ | exact L2.Dp.str _ | exact L2.Dp.bl _ | exact L2.Dp.non
  | ((with_reducible apply G.dp_intsE); (assumption); (fail "mem"))
  | ((with_reducible apply G.dpT_intsE); (assumption); (fail "mem"))
  | ((with_reducible apply G.dp_cellsE); (assumption); (fail "mem"))
  | ((with_reducible apply G.dp_writtenE); (assumption); (fail "mem"))
  | ((with_reducible apply G.dp_tupE); (assumption); (fail "mem"); (fail "dpa"))
  | ((with_reducible apply G.dp_lstE); (assumption); (fail "mem"); (fail "dpa")))
local macro_rules | `(tactic| fail "dpa") => `(tactic| first | exact L2.DpAll.nil | ((apply L2.DpAll.cons); (fail "dp"); (fail "dpa")))
local macro_rules | `(tactic| fail "lay") => `(tactic| first | rfl | exact G.lay_nil | exact G.canLay_ints _ | exact G.lay_left (by assumption) | exact G.lay_str (by assumption) | (refine G.lay_cons ?_ ?_ <;> fail "lay") | (refine G.lay_tup ?_; fail "lay") | (refine G.lay_lst ?_; fail "lay"))
local macro_rules | `(tactic| fail "shaped") => `(tactic| first | exact G.shaped_ints _ | exact G.shapedT_ints _ | (refine G.shaped_of ?_ ?_; (fail "lay"); (simp only [PySem.PyData.depth, PySem.PyData.depthAll, G.depthAll_ints]; decide)))
local macro_rules | `(tactic| fail "g") => `(tactic| first
  | with_reducible first | refine G.g_meth ?_ | refine G.g_methK ?_
  | ((with_reducible apply G.g_fldM); (assumption); (fail "mem"); (fail "kc"); (fail "cls"); (fail "na"); (exact rfl))
  | ((with_reducible apply G.g_methM); (assumption); (fail "mem"); (fail "kc"); (exact rfl))
  | ((with_reducible apply G.g_slS); (fail "sd"))
  | ((with_reducible apply G.g_eqD); (fail "dp"); (fail "dp"); (fail "shaped"); (fail "shaped"))
  | ((with_reducible apply G.g_neD); (fail "dp"); (fail "dp"); (fail "shaped"); (fail "shaped")))
local macro_rules | `(tactic| fail "g") => `(tactic| first
  | ((with_reducible apply G.g_isiM); (assumption); (fail "mem"); (fail "kc"); (fail "cls"); (fail "clsx"))
  | ((with_reducible apply G.g_ownE); (assumption); (fail "mem"); (fail "mem"); (fail "kc"))
  | ((with_reducible apply G.g_ownN); (assumption); (fail "mem"); (fail "mem"); (fail "kc")))
local macro_rules | `(tactic| fail "g") => `(tactic| first
  | with_reducible refine G.g_makeK ?_
  | ((with_reducible apply G.g_lens); (exact rfl); (exact rfl)))
local macro_rules | `(tactic| fail "ints") => `(tactic| first | exact G.Ints.map _ | exact G.Ints.nil | (apply G.Ints.cons; fail "ints"))
local macro_rules | `(tactic| fail "words") => `(tactic| first | assumption | exact G.words_nil | (refine G.words_cons ?_ ?_; (fail "sd"); (fail "words")))
local macro_rules | `(tactic| fail "sub") => `(tactic| first | exact G.SubE.nil | exact G.SubE.suf (by fail "suf") | ((apply G.SubE.cons); (fail "rem"); (fail "sub")))
local macro_rules | `(tactic| fail "has") => `(tactic| ((apply G.Has.sub); (assumption); (fail "sub")))
local macro_rules | `(tactic| fail "g") => `(tactic| first
  | with_reducible first
    | refine G.g_for ?_ | refine G.g_iRng1 ?_ | refine G.g_iRng2 ?_ | refine G.g_iList ?_ | refine G.g_iTup ?_ | refine G.g_lc ?_
  | ((with_reducible apply G.g_rng1); (fail "rg"))
  | ((with_reducible apply G.g_rng2); (fail "rg"))
  | ((with_reducible apply G.g_inL); (assumption); (fail "mem"))
  | ((with_reducible apply G.g_inQ); (assumption); (fail "mem"))
  | ((with_reducible apply G.g_inT); (assumption); (fail "mem")))
local macro_rules | `(tactic| fail "g") => `(tactic| first
  | with_reducible first | refine G.g_abs ?_ | refine G.g_max2 ?_ | refine G.g_min2 ?_ | refine G.g_int1 ?_ | refine G.g_int1b ?_ | refine G.g_starts ?_
  | ((with_reducible apply G.g_lenL); (assumption); (fail "mem"))
  | ((with_reducible apply G.g_lenT); (assumption); (fail "mem"))
  | ((with_reducible apply G.g_lenQ); (assumption); (fail "mem"))
  | ((with_reducible apply G.g_tupT); (assumption); (fail "mem"))
  | ((with_reducible apply G.g_listL); (assumption); (fail "mem"); intro _ _ _ _)
  | ((with_reducible apply G.g_listT); (assumption); (fail "mem"); intro _ _ _ _)
  | ((with_reducible apply G.g_tupL); (assumption); (fail "mem"); intro _ _ _ _)
  | ((with_reducible apply G.g_slL); (assumption); (fail "mem"); intro _ _ _ _)
  | ((with_reducible apply G.g_slQ); (assumption); (fail "mem"); intro _ _ _ _)
  | ((with_reducible apply G.g_lenS); (fail "len"))
  | ((with_reducible apply G.g_catS); (fail "len"))
  | ((with_reducible apply G.g_ixLQ); (assumption); (fail "mem"); (exact rfl)))
local macro_rules | `(tactic| fail "mb") => `(tactic| first | assumption | ((with_reducible apply G.MacB.run); fail "mb") | ((with_reducible apply G.MacB.step); fail "mb"))
local macro_rules | `(tactic| fail "wf") => `(tactic| first | assumption | (exact G.MacB.wf (by fail "mb")))
local macro_rules | `(tactic| fail "g") => `(tactic| first
  | ((with_reducible apply G.g_len1); (exact rfl)))
local macro_rules | `(tactic| fail "unroll") => `(tactic| first | ((with_reducible apply G.unL); (assumption); (fail "mem")) | ((with_reducible apply G.unT); (assumption); (fail "mem")))
local macro_rules | `(tactic| fail "g") => `(tactic| first
  | with_reducible first | refine G.g_unC ?_ | refine G.g_unN ?_
  | ((with_reducible apply G.g_sqLp); (assumption); (fail "mem"))
  | ((with_reducible apply G.g_sqTp); (assumption); (fail "mem")))
local macro_rules | `(tactic| fail "txt") => `(tactic| first | assumption | decide +kernel)
local macro_rules | `(tactic| fail "mb") => `(tactic| first | (exact G.MacB.mac0 (by fail "words") (by fail "len") (by fail "sd") (by fail "sd") (by fail "txt")))
local macro_rules | `(tactic| fail "tt") => `(tactic| first | exact G.eqB_self _ | exact G.standsB_self _)
local macro_rules | `(tactic| fail "delat") => `(tactic| first | exact G.DelAt.zero | (apply G.DelAt.succ; fail "delat"))
local macro_rules | `(tactic| fail "xd") => `(tactic| first | exact G.xd_none)
local macro_rules | `(tactic| fail "g") => `(tactic| first
  | ((with_reducible apply G.g_del); (fail "delat"))
  | ((with_reducible apply G.g_isX); (assumption); (assumption); (walk_at "excs"); (walk_at "excr"); (assumption); (fail "xd"))
  | ((with_reducible apply G.g_caught); (assumption); (assumption); (walk_at "excs"); (assumption); intro _ _))
local macro_rules | `(tactic| fail "thing") => `(tactic| first | assumption | exact G.Thing.int _ | exact G.Thing.str _ | exact G.Thing.bl _ | exact G.Thing.non | exact G.thing_tup (L2.SqT.of (G.Has.at (by assumption) (by fail "mem"))) | exact G.thing_lst (L2.SqL.of (G.Has.at (by assumption) (by fail "mem"))))
local macro_rules | `(tactic| fail "nb") => `(tactic| first | assumption | decide | rfl)
local macro_rules | `(tactic| fail "tt") => `(tactic| first | exact decide_eq_true rfl)
local macro_rules | `(tactic| fail "fine") => `(tactic| first | assumption | exact G.fineB _ | exact G.fineN | exact G.fineI (by omega))
local macro_rules | `(tactic| fail "g") => `(tactic| first
  | with_reducible refine G.g_methD0 ?_
  | ((with_reducible apply G.g_repr); (fail "dp"); (fail "fine")))
local macro_rules | `(tactic| fail "fine") => `(tactic| first | exact G.fineDid _ _ (by omega))
local macro_rules | `(tactic| fail "ltl") => `(tactic| first | omega | (simp only [List.length_cons, List.length_nil, List.length_map, List.length_append]; omega))
local macro_rules | `(tactic| fail "alli") => `(tactic| first | exact G.allV0 | (refine G.allV ⟨_, rfl, by omega, by omega⟩ ?_; fail "alli"))
local macro_rules | `(tactic| fail "at4") => `(tactic| first | omega | (exact G.Mac.Wf.place (by fail "wf")) | (refine ⟨?_, ?_⟩ <;> fail "sd"))
local macro_rules | `(tactic| fail "g") => `(tactic| first
  | ((with_reducible apply G.g_lenW); (assumption); (fail "mem"))
  | ((with_reducible apply G.g_lenW2); (assumption); (fail "mem"))
  | ((with_reducible apply G.g_ixM); (assumption); (fail "mem"); (fail "wf"); (fail "at4"))
  | ((with_reducible apply G.g_ixM2); (assumption); (fail "mem"); (fail "wf"); (fail "at4"))
  | ((with_reducible apply G.g_ixSt); (assumption); (fail "mem"); (exact rfl))
  | ((with_reducible apply G.g_listSt); (assumption); (fail "mem"); intro _ _ _ _)
  | ((with_reducible apply G.g_listStC); (assumption); (fail "mem"); intro _ _ _ _)
  | ((with_reducible apply G.g_listStW); (assumption); (fail "mem"); intro _ _ _ _)
  | ((with_reducible apply G.g_setL); (assumption); (fail "rem"); (exact rfl); intro _ _))
local macro_rules | `(tactic| fail "dp") => `(tactic| ((with_reducible apply G.dp_log); (assumption); (fail "mem"); (fail "mem")))
local macro_rules | `(tactic| fail "fine") => `(tactic| ((with_reducible apply G.fineLog); (fail "mb"); (omega)))
/- a def called by keywords, too -/
local macro_rules | `(tactic| fail "g") => `(tactic| with_reducible refine G.g_callK ?_)
/- is, is not of bools; max, min of a tuple of ints -/
local macro_rules | `(tactic| fail "g") => `(tactic| first
  | with_reducible first | refine G.g_isBl ?_ | refine G.g_notBl ?_
  | ((with_reducible apply G.g_maxT); (assumption); (fail "mem"); (assumption); intro _ _ _)
  | ((with_reducible apply G.g_minT); (assumption); (fail "mem"); (assumption); intro _ _ _))
local macro_rules | `(tactic| fail "g") => `(tactic| ((with_reducible apply G.g_rep1); (assumption); (fail "mem"); (fail "sd"); (fail "sd"); intro _ _ _ _))
local macro_rules | `(tactic| fail "ff") => `(tactic| with_reducible first | exact G.neS_self _ | exact G.neT_self _)
local macro_rules | `(tactic| fail "lay") => `(tactic| exact G.lay_str (by decide +kernel))
local macro_rules | `(tactic| fail "ff") => `(tactic| exact G.neq_self (by decide +kernel))
local macro_rules | `(tactic| fail "ff") => `(tactic| with_reducible first | exact G.neS_self _ | exact G.neT_self _)
local macro_rules | `(tactic| fail "keysv") => `(tactic| first | exact G.KeysV.nil | (apply G.KeysV.str; fail "keysv") | (apply G.KeysV.int; fail "keysv"))
local macro_rules | `(tactic| fail "valk") => `(tactic| first | (with_reducible first | exact G.st_cells | exact G.st_place | exact G.st_hand | exact G.st_text | exact G.st_read | exact G.st_written | exact G.st_ended) | exact rfl)
local macro_rules | `(tactic| fail "g") => `(tactic| first
  | with_reducible first | refine G.g_dget ?_ | refine G.g_dput ?_ | refine G.g_dget2 ?_ | refine G.g_pairs ?_ | refine G.g_pairs0 ?_
  | ((with_reducible apply G.g_dgS); (assumption); (fail "mem"); (fail "valk"))
  | ((with_reducible apply G.g_dgI); (assumption); (fail "mem"); (fail "valk"))
  | ((with_reducible apply G.g_isD); (assumption); (fail "mem"))
  | ((with_reducible apply G.g_disp); (assumption); intro _ _ _ _)
  | ((with_reducible apply G.g_dispE); (assumption); (fail "rem"); (fail "keysv"); (decide +kernel); (decide); intro _ _)
  | ((with_reducible apply G.g_dispR); (assumption); (fail "rem"); (fail "keysv"); (decide +kernel); (decide); intro _))
/- the steps that ask for nothing, by the goal's head: several at once -/
local macro_rules | `(tactic| fail "go") => `(tactic| repeat first | refine G.lk_go ?_ | refine G.Lk.go ?_ | fail "g")
namespace G
open PySem PySem.Spec PyProof.Rows L2
/-! ### the text by places -/
def top (i : Nat) : Stmt := PySem.Challenge.pw_seedmill_k27_images_loaded.main.body.getD i (.Pass ⟨0, 0, 0, 0⟩)
abbrev s__law_pen_of : Stmt := top 59
abbrev s__law_cell_at : Stmt := top 57
abbrev s__law_next : Stmt := top 58
abbrev s__law_draw : Stmt := top 60
abbrev s__law_leads : Stmt := top 61
abbrev s__law_odd_address : Stmt := top 62
abbrev s__law_image : Stmt := top 63
abbrev s__law_given : Stmt := top 69
abbrev s__law_made : Stmt := top 65
abbrev s_is_whole : Stmt := top 28
abbrev s_is_between : Stmt := top 29
abbrev s_is_word : Stmt := top 30
abbrev s_need_cells : Stmt := top 49
abbrev s_is_address : Stmt := top 45
abbrev s_need_address : Stmt := top 46
abbrev s_need_input : Stmt := top 47
abbrev s_Machine____init__ : Stmt := clsItem (top 50) 0
abbrev s_kind_by : Stmt := top 31
abbrev s_is_leading : Stmt := top 35
abbrev s_address_by : Stmt := top 32
abbrev s_leads_within : Stmt := top 36
abbrev s_is_image : Stmt := top 37
abbrev s_need_image : Stmt := top 38
abbrev s_need_base : Stmt := top 53
abbrev s_led_on : Stmt := top 39
abbrev s_placed : Stmt := top 54
abbrev s_loaded : Stmt := top 55
abbrev s_need_steps : Stmt := top 48
abbrev s_Machine__leads : Stmt := clsItem (top 50) 14
abbrev s_Machine__take_sign : Stmt := clsItem (top 50) 13
abbrev s_Machine__do : Stmt := clsItem (top 50) 16
abbrev s_Machine__step : Stmt := clsItem (top 50) 15
abbrev s_Machine__run : Stmt := clsItem (top 50) 17
abbrev s_Machine__place : Stmt := clsItem (top 50) 3
abbrev s_Machine__hand : Stmt := clsItem (top 50) 4
abbrev s_Machine__read : Stmt := clsItem (top 50) 5
abbrev s_Machine__written : Stmt := clsItem (top 50) 6
abbrev s_Machine__ended : Stmt := clsItem (top 50) 7
abbrev s_Machine__cells : Stmt := clsItem (top 50) 2
abbrev s__law_stands : Stmt := top 70
abbrev s__law_placed : Stmt := top 64
abbrev s__law_hand : Stmt := top 66
abbrev s__law_step : Stmt := top 67
abbrev s__law_run : Stmt := top 68
abbrev s_Machine__left : Stmt := clsItem (top 50) 8
abbrev s_Machine__stands_as : Stmt := clsItem (top 50) 10
abbrev s_Machine____eq__ : Stmt := clsItem (top 50) 11
abbrev s_law : Stmt := top 71
structure K_Machine (K : PySem.W.Frag) (mg : Str → Option Value) (C : Addr) : Prop where
  mg : mg "Machine" = some (.ref C)
  cls : Cls K C
  x : ClsX K C
  n_own_cells : NoAttr K C "own_cells"
  n_own_place : NoAttr K C "own_place"
  n_own_hand : NoAttr K C "own_hand"
  n_own_text : NoAttr K C "own_text"
  n_own_read : NoAttr K C "own_read"
  n_own_written : NoAttr K C "own_written"
  n_own_ended : NoAttr K C "own_ended"
  i : ∃ e0, SqTK K e0 [] ∧ ∃ f fd, InitAt K C "Machine.__init__" s_Machine____init__ [V.ref e0] [("place", V.int 0), ("text", V.str "")] f fd
  m_leads : TopMeth K C "leads" "Machine.leads" s_Machine__leads ["self", "kind"]
  m_take_sign : TopMeth K C "take_sign" "Machine.take_sign" s_Machine__take_sign ["self"]
  m_do : TopMeth K C "do" "Machine.do" s_Machine__do ["self", "kind", "address"]
  m_step : TopMeth K C "step" "Machine.step" s_Machine__step ["self"]
  m_run : ∃ f fd, MethKAt K C "run" "Machine.run" s_Machine__run [] [("most", V.int 1000)] f fd
  m_place : TopMeth K C "place" "Machine.place" s_Machine__place ["self"]
  m_hand : TopMeth K C "hand" "Machine.hand" s_Machine__hand ["self"]
  m_read : TopMeth K C "read" "Machine.read" s_Machine__read ["self"]
  m_written : TopMeth K C "written" "Machine.written" s_Machine__written ["self"]
  m_ended : TopMeth K C "ended" "Machine.ended" s_Machine__ended ["self"]
  m_cells : TopMeth K C "cells" "Machine.cells" s_Machine__cells ["self"]
  m_left : TopMeth K C "left" "Machine.left" s_Machine__left ["self"]
  m_stands_as : TopMeth K C "stands_as" "Machine.stands_as" s_Machine__stands_as ["self", "other"]
  m___eq__ : TopMeth K C "__eq__" "Machine.__eq__" s_Machine____eq__ ["self", "other"]
local macro_rules | `(tactic| fail "kc") => `(tactic| exact K_Machine.mg (by assumption))
local macro_rules | `(tactic| fail "cls") => `(tactic| exact K_Machine.cls (by assumption))
local macro_rules | `(tactic| fail "clsx") => `(tactic| exact K_Machine.x (by assumption))
local macro_rules | `(tactic| fail "na") => `(tactic| first | exact K_Machine.n_own_cells (by assumption) | exact K_Machine.n_own_place (by assumption) | exact K_Machine.n_own_hand (by assumption) | exact K_Machine.n_own_text (by assumption) | exact K_Machine.n_own_read (by assumption) | exact K_Machine.n_own_written (by assumption) | exact K_Machine.n_own_ended (by assumption))
structure Top (K : PySem.W.Frag) (mg : Str → Option Value) : Prop where
  d__law_pen_of : TopDef K mg "_law_pen_of" s__law_pen_of ["_law_cell"]
  d__law_cell_at : TopDef K mg "_law_cell_at" s__law_cell_at ["_law_script", "_law_k"]
  d__law_next : TopDef K mg "_law_next" s__law_next ["_law_one"]
  d__law_draw : TopDef K mg "_law_draw" s__law_draw ["_law_pen", "_law_many"]
  d__law_leads : TopDef K mg "_law_leads" s__law_leads ["_law_word"]
  d__law_odd_address : TopDef K mg "_law_odd_address" s__law_odd_address ["_law_pen", "_law_many"]
  d__law_image : TopDef K mg "_law_image" s__law_image ["_law_pen", "_law_size"]
  d__law_given : TopDef K mg "_law_given" s__law_given ["_law_pen"]
  d__law_made : TopDef K mg "_law_made" s__law_made ["_law_words", "_law_spot", "_law_given_here"]
  d_is_whole : TopDef K mg "is_whole" s_is_whole ["thing"]
  d_is_between : TopDef K mg "is_between" s_is_between ["thing", "low", "high"]
  d_is_word : TopDef K mg "is_word" s_is_word ["thing"]
  d_need_cells : TopDef K mg "need_cells" s_need_cells ["thing"]
  d_is_address : TopDef K mg "is_address" s_is_address ["thing"]
  d_need_address : TopDef K mg "need_address" s_need_address ["thing"]
  d_need_input : TopDef K mg "need_input" s_need_input ["thing"]
  d_kind_by : TopDef K mg "kind_by" s_kind_by ["word"]
  d_is_leading : TopDef K mg "is_leading" s_is_leading ["word"]
  d_address_by : TopDef K mg "address_by" s_address_by ["word"]
  d_leads_within : TopDef K mg "leads_within" s_leads_within ["word", "length"]
  d_is_image : TopDef K mg "is_image" s_is_image ["thing"]
  d_need_image : TopDef K mg "need_image" s_need_image ["thing"]
  d_need_base : TopDef K mg "need_base" s_need_base ["base", "length"]
  d_led_on : TopDef K mg "led_on" s_led_on ["words", "by"]
  d_placed : TopDef K mg "placed" s_placed ["image", "base"]
  d_loaded : TopDefK K mg "loaded" s_loaded [V.int 128] [("text", V.str "")]
  d_need_steps : TopDef K mg "need_steps" s_need_steps ["thing"]
  d__law_stands : TopDef K mg "_law_stands" s__law_stands ["_law_machine", "_law_state"]
  d__law_placed : TopDef K mg "_law_placed" s__law_placed ["_law_image_here", "_law_by"]
  d__law_hand : TopDef K mg "_law_hand" s__law_hand ["_law_state", "_law_kind", "_law_address", "_law_near"]
  d__law_step : TopDef K mg "_law_step" s__law_step ["_law_state"]
  d__law_run : TopDef K mg "_law_run" s__law_run ["_law_state", "_law_many"]
  d_law : TopDef K mg "law" s_law ["_law_script"]
  b_all : mg "all" = none
  b_bool : mg "bool" = none
  b_int : mg "int" = none
  b_isinstance : mg "isinstance" = none
  b_len : mg "len" = none
  b_list : mg "list" = none
  b_max : mg "max" = none
  b_ord : mg "ord" = none
  b_range : mg "range" = none
  b_repr : mg "repr" = none
  b_str : mg "str" = none
  b_tuple : mg "tuple" = none
  c_ADD : ∃ t, mg "ADD" = some (.int 3 t)
  c_END : ∃ t, mg "END" = some (.int 0 t)
  c_FROM : ∃ t, mg "FROM" = some (.int 6 t)
  c_GO : ∃ t, mg "GO" = some (.int 8 t)
  c_GREAT : ∃ t, mg "GREAT" = some (.int 14 t)
  c_HALF : ∃ t, mg "HALF" = some (.int 32768 t)
  c_INTO : ∃ t, mg "INTO" = some (.int 7 t)
  c_LEADING : ∃ a, mg "LEADING" = some (.ref a) ∧ SqTK K a [V.int 8, V.int 9, V.int 10, V.int 13, V.int 14]
  c_LEAST_BASE : ∃ t, mg "LEAST_BASE" = some (.int 127 t)
  c_LESS : ∃ t, mg "LESS" = some (.int 4 t)
  c_LOAD : ∃ t, mg "LOAD" = some (.int 1 t)
  c_MOST_CELLS : ∃ t, mg "MOST_CELLS" = some (.int 4096 t)
  c_MOST_LENGTH : ∃ t, mg "MOST_LENGTH" = some (.int 1000 t)
  c_MOST_STEPS : ∃ t, mg "MOST_STEPS" = some (.int 200000 t)
  c_MOST_WORD : ∃ t, mg "MOST_WORD" = some (.int 65535 t)
  c_OTHER : ∃ t, mg "OTHER" = some (.int 13 t)
  c_READ : ∃ t, mg "READ" = some (.int 11 t)
  c_ROUND : ∃ t, mg "ROUND" = some (.int 65536 t)
  c_SMALL : ∃ t, mg "SMALL" = some (.int 10 t)
  c_SPAN : ∃ t, mg "SPAN" = some (.int 4096 t)
  c_STORE : ∃ t, mg "STORE" = some (.int 2 t)
  c_TAKE : ∃ t, mg "TAKE" = some (.int 5 t)
  c_WRITE : ∃ t, mg "WRITE" = some (.int 12 t)
  c_ZERO : ∃ t, mg "ZERO" = some (.int 9 t)
  k_NoAddress : ExcAt K mg "NoAddress"
  k_NoBase : ExcAt K mg "NoBase"
  k_NoCells : ExcAt K mg "NoCells"
  k_NoImage : ExcAt K mg "NoImage"
  k_NoInput : ExcAt K mg "NoInput"
  k_NoSteps : ExcAt K mg "NoSteps"
  k_Machine : ∃ C, K_Machine K mg C
section
variable {P : Program} {w : World} {K : PySem.W.Frag} {mg : Str → Option Value} {base : Heap}
/-! ### _law_pen_of -/
abbrev N__law_pen_of : List Str := ["_law_cell", "_law_left"]
theorem sc__law_pen_of : FnScope N__law_pen_of ["_law_cell"] (defScope s__law_pen_of) := ⟨rfl, rfl, rfl, by decide +kernel, rfl, by decide +kernel, by decide +kernel⟩
def S__law_pen_of (K : PySem.W.Frag) (mg : Str → Option Value) : Sp := sp1 fun a H Q _ => ∃ i : Int, a = .int i ∧ ∀ (p : Addr) (x y z : Int), H p = none → Q (.ref p) (upd H p (.lst [.int x, .int y, .int z]))
theorem fn__law_pen_of (T : Top K mg) {f : Addr} {fd : FuncData} (D : DefAt K mg "_law_pen_of" s__law_pen_of ["_law_cell"] f fd) : FnG Room P w K mg base 1 f fd ["_law_cell"] (S__law_pen_of K mg) := by
  refine fn_of_body rl_room D.fn sc__law_pen_of (fun vs H Q E h => by obtain ⟨_, rfl, _⟩ := h; rfl) (fun cdv A outer s H vs Q E hr h => ?_)
  obtain ⟨a, rfl, h⟩ := h
  have nd : N__law_pen_of.Nodup := sc__law_pen_of.nd
  refine ⟨_, pss_cons (ps_set (i := 1) nd rfl (by first | exact Or.inl rfl | exact Or.inr rfl) (pe_callB (n_max2 rfl) (by rfl) T.b_max (bt_max) (pa_cons (pv 0) (pa_cons (pe_op (op_sub) (pe_int) (pv 0)) (pa_nil)))))
  (pss_one (ps_ret (pe_lst (pa_cons (pv 1) (pa_cons (pe_callTy (n_int1) (by rfl) T.b_int (bt_int) (pa_cons (pe_cmpR (op_ge) (pv 1) (pe_op (op_pow) (pe_int) (pe_int)) (nomark _)) (pa_nil))) (pa_cons (pe_op (op_mod) (pv 1) (pe_int)) (pa_nil))))))), ?_⟩
  obtain ⟨i, rfl, q⟩ := h
  refine ⟨_, rfl, _, rfl, _, _, rfl, rfl, _, _, rfl, ?_⟩
  refine ⟨_, rfl, _, rfl, _, _, rfl, rfl, ⟨by decide, by decide, by decide⟩, _, _, rfl, rfl, .inr ⟨_, rfl, _, rfl, _, _, rfl, rfl, (by show (0 : Int) < 1000003; decide), (by show 3 ≤ sizeLine; decide), fun p hp => q p _ _ _ hp⟩⟩
theorem cal__law_pen_of (T : Top K mg) : Cal Room P w K mg base 1 "_law_pen_of" [] (S__law_pen_of K mg) := by
  obtain ⟨f, fd, D⟩ := T.d__law_pen_of
  exact cal_mk D (fn__law_pen_of T D)
theorem use__law_pen_of {E : List Ent} {H : Hp} {Q : VK} {X : XK} {i : Int} (h : Has E H) (q : ∀ p H', Has (pen p :: E) H' → Q (.ref p) H') : S__law_pen_of K mg [.int i] H Q X :=
  ⟨_, rfl, i, rfl, fun p x y z f => q p _ (h.new f).mkPen⟩
local macro_rules | `(tactic| fail "g") => `(tactic| ((with_reducible apply use__law_pen_of); (assumption); intro _ _ _))
/-! ### _law_cell_at -/
abbrev N__law_cell_at : List Str := ["_law_script", "_law_k"]
theorem sc__law_cell_at : FnScope N__law_cell_at ["_law_script", "_law_k"] (defScope s__law_cell_at) := ⟨rfl, rfl, rfl, by decide +kernel, rfl, by decide +kernel, by decide +kernel⟩
def S__law_cell_at (K : PySem.W.Frag) (mg : Str → Option Value) : Sp := sp2 fun a b H Q _ => ∃ (p : Addr) (ns : List Int) (k : Int), a = .ref p ∧ b = .int k ∧ SqL K H p (ns.map V.int) ∧ 0 ≤ k ∧ ∀ z, Q (.int z) H
theorem fn__law_cell_at (T : Top K mg) {f : Addr} {fd : FuncData} (D : DefAt K mg "_law_cell_at" s__law_cell_at ["_law_script", "_law_k"] f fd) : FnG Room P w K mg base 1 f fd ["_law_script", "_law_k"] (S__law_cell_at K mg) := by
  refine fn_of_body rl_room D.fn sc__law_cell_at (fun vs H Q E h => by obtain ⟨_, _, rfl, _⟩ := h; rfl) (fun cdv A outer s H vs Q E hr h => ?_)
  obtain ⟨a, b, rfl, h⟩ := h
  have nd : N__law_cell_at.Nodup := sc__law_cell_at.nd
  refine ⟨_, pss_cons (ps_if (pt_cmpR (op_lt) (pv 1) (pe_callB (n_len_seq) (by rfl) T.b_len (bt_len) (pa_cons (pv 0) (pa_nil))) (nomark _)) (pss_one (ps_ret (pe_ix (ix_list) (pv 0) (pv 1) (fun _ _ => rfl)))) (pss_nil))
  (pss_one (ps_ret (pe_int))), ?_⟩
  obtain ⟨p, ns, k, rfl, rfl, hs, h0, q⟩ := h
  refine ⟨_, rfl, _, rfl, p, _, rfl, .inl hs, _, _, rfl, rfl, _, rfl, ?_⟩
  refine ite2 (fun e => ?_) (fun e => q _)
  have e1 : k < ((ns.map V.int).length : Int) := of_decide_eq_true e
  rw [List.length_map] at e1
  have e2 : (ns.map V.int)[k.toNat]? = some (V.int (ns[k.toNat]'(by omega))) := by
    rw [List.getElem?_map, List.getElem?_eq_getElem (by omega)]
    rfl
  exact ⟨_, rfl, _, rfl, p, _, _, _, rfl, rfl, hs, atI_int h0 e2, q _⟩
theorem cal__law_cell_at (T : Top K mg) : Cal Room P w K mg base 1 "_law_cell_at" [] (S__law_cell_at K mg) := by
  obtain ⟨f, fd, D⟩ := T.d__law_cell_at
  exact cal_mk D (fn__law_cell_at T D)
theorem use__law_cell_at {E : List Ent} {H : Hp} {Q : VK} {X : XK} {s : Addr} {ns : List Int} {t : Bool} {k : Int} (h : Has E H) (r : sqE K s (ns.map V.int) t ∈ E) (k0 : 0 ≤ k) (q : ∀ z, Q (.int z) H) : S__law_cell_at K mg [.ref s, .int k] H Q X :=
  ⟨_, _, rfl, s, ns, k, rfl, rfl, h.sq r, k0, q⟩
local macro_rules | `(tactic| fail "g") => `(tactic| ((with_reducible apply use__law_cell_at); (assumption); (fail "mem"); (fail "sd"); intro _))
/-! ### _law_next -/
abbrev N__law_next : List Str := ["_law_one"]
theorem sc__law_next : FnScope N__law_next ["_law_one"] (defScope s__law_next) := ⟨rfl, rfl, rfl, by decide +kernel, rfl, by decide +kernel, by decide +kernel⟩
def S__law_next (K : PySem.W.Frag) (mg : Str → Option Value) : Sp := sp1 fun a H Q _ => ∃ i : Int, a = .int i ∧ ∀ z : Int, 0 ≤ z → z < 2147483629 → Q (.int z) H
theorem fn__law_next (T : Top K mg) {f : Addr} {fd : FuncData} (D : DefAt K mg "_law_next" s__law_next ["_law_one"] f fd) : FnG Room P w K mg base 1 f fd ["_law_one"] (S__law_next K mg) := by
  refine fn_of_body rl_room D.fn sc__law_next (fun vs H Q E h => by obtain ⟨_, rfl, _⟩ := h; rfl) (fun cdv A outer s H vs Q E hr h => ?_)
  obtain ⟨a, rfl, h⟩ := h
  have nd : N__law_next.Nodup := sc__law_next.nd
  refine ⟨_, pss_cons (ps_set (i := 0) nd rfl (by first | exact Or.inl rfl | exact Or.inr rfl) (pe_op (op_mod) (pe_op (op_add) (pv 0) (pe_int)) (pe_int)))
  (pss_one (ps_ret (pe_op (op_mod) (pe_op (op_add) (pe_op (op_add) (pe_op (op_mul) (pv 0) (pv 0)) (pe_op (op_mul) (pe_int) (pv 0))) (pe_int)) (pe_int)))), ?_⟩
  try dsimp only [cxOf]
  obtain ⟨i, rfl, q⟩ := h
  fail "go"
  exact q _ (Int.emod_nonneg _ (by decide)) (Int.emod_lt_of_pos _ (by decide))
theorem cal__law_next (T : Top K mg) : Cal Room P w K mg base 1 "_law_next" [] (S__law_next K mg) := by
  obtain ⟨f, fd, D⟩ := T.d__law_next
  exact cal_mk D (fn__law_next T D)
/-! ### _law_draw -/
abbrev N__law_draw : List Str := ["_law_pen", "_law_many", "_law_found"]
theorem sc__law_draw : FnScope N__law_draw ["_law_pen", "_law_many"] (defScope s__law_draw) := ⟨rfl, rfl, rfl, by decide +kernel, rfl, by decide +kernel, by decide +kernel⟩
def S__law_draw (K : PySem.W.Frag) (mg : Str → Option Value) : Sp := sp2 fun a b H Q _ => ∃ (p : Addr) (n : Int), a = .ref p ∧ b = .int n ∧ PenAt p H ∧ 0 < n ∧ n < 1073741824 ∧ ∀ H' r, But p H H' → PenAt p H' → 0 ≤ r → r < n → Q (.int r) H'
theorem fn__law_draw (T : Top K mg) {f : Addr} {fd : FuncData} (D : DefAt K mg "_law_draw" s__law_draw ["_law_pen", "_law_many"] f fd) : FnG Room P w K mg base 2 f fd ["_law_pen", "_law_many"] (S__law_draw K mg) := by
  refine fn_of_body rl_room D.fn sc__law_draw (fun vs H Q E h => by obtain ⟨_, _, rfl, _⟩ := h; rfl) (fun cdv A outer s H vs Q E hr h => ?_)
  obtain ⟨a, b, rfl, h⟩ := h
  have nd : N__law_draw.Nodup := sc__law_draw.nd
  refine ⟨_, pss_cons (ps_if (PW.pt (pw_and (pt_cmpR (op_eq) (pe_ix (ix_list) (pv 0) (pe_int) (fun _ _ => rfl)) (pe_int) (nomark _)) (pw_and1 (pt_cmpR (op_gt) (pe_ix (ix_list) (pv 0) (pe_int) (fun _ _ => rfl)) (pe_int) (nomark _))))) (pss_cons (ps_set (i := 2) nd rfl (by first | exact Or.inl rfl | exact Or.inr rfl) (pe_op (op_mod) (pe_ix (ix_list) (pv 0) (pe_int) (fun _ _ => rfl)) (pv 1)))
  (pss_cons (ps_asg (pe_op (op_fdiv) (pe_ix (ix_list) (pv 0) (pe_int) (fun _ _ => rfl)) (pv 1)) (pg_sub (pv 0) (pe_int) (set_list)))
  (pss_one (ps_ret (pv 2))))) (pss_nil))
  (pss_cons (ps_asg (pe_c (cal__law_next T) hr pass (pa_cons (pe_op (op_add) (pe_c (cal__law_next T) hr pass (pa_cons (pe_ix (ix_list) (pv 0) (pe_int) (fun _ _ => rfl)) (pa_nil))) (pe_int)) (pa_nil))) (pg_sub (pv 0) (pe_int) (set_list)))
  (pss_one (ps_ret (pe_op (op_mod) (pe_op (op_fdiv) (pe_ix (ix_list) (pv 0) (pe_int) (fun _ _ => rfl)) (pe_int)) (pv 1))))), ?_⟩
  obtain ⟨p, n, rfl, rfl, ⟨x, y, z, hp⟩, n0, n1, q⟩ := h
  have sq : SqL K H p [.int x, .int y, .int z] := SqL.of hp
  refine ⟨_, rfl, p, _, _, _, rfl, rfl, sq, rfl, rfl, _, rfl, ?_⟩
  refine ite2 (fun e => ⟨_, rfl, p, _, _, _, rfl, rfl, sq, rfl, _, _, rfl, rfl, _, rfl, ?_⟩) (fun e => iteF ?_)
  refine ite2 (fun e => ?_) (fun e => ?_)
  · refine ⟨_, rfl, p, _, _, _, rfl, rfl, sq, rfl, _, rfl, _, _, rfl, rfl, n0, ?_⟩
    refine ⟨_, rfl, p, _, _, _, rfl, rfl, sq, rfl, _, rfl, _, _, rfl, rfl, ⟨n0, n1⟩, _, rfl, p, _, _, _, rfl, rfl, hp, rfl, _, rfl, ?_⟩
    exact q _ _ But.upd ⟨_, _, _, upd_same⟩ (Int.emod_nonneg _ (by omega)) (Int.emod_lt_of_pos _ n0)
  all_goals
    refine ⟨_, rfl, p, _, _, _, rfl, rfl, sq, rfl, ⟨_, rfl, _, rfl, fun z1 _ _ => ⟨_, _, rfl, rfl, ⟨_, rfl, _, rfl, fun z2 _ _ => ⟨_, rfl, p, _, _, _, rfl, rfl, hp, rfl, ?_⟩⟩⟩⟩⟩
    refine ⟨_, rfl, p, _, _, _, rfl, rfl, SqL.of upd_same, rfl, _, _, rfl, rfl, ⟨by decide, by decide⟩, _, rfl, _, _, rfl, rfl, n0, ?_⟩
    exact q _ _ But.upd ⟨_, _, _, upd_same⟩ (Int.emod_nonneg _ (by omega)) (Int.emod_lt_of_pos _ n0)
theorem cal__law_draw (T : Top K mg) : Cal Room P w K mg base 2 "_law_draw" [] (S__law_draw K mg) := by
  obtain ⟨f, fd, D⟩ := T.d__law_draw
  exact cal_mk D (fn__law_draw T D)
theorem use__law_draw {E E1 : List Ent} {H : Hp} {Q : VK} {X : XK} {p : Addr} {n : Int} (h : Has E H) (r : Rem (pen p) E E1) (n0 : 0 < n) (n1 : n < 1073741824) (q : ∀ H', Has (pen p :: E1) H' → ∀ r, 0 ≤ r → r < n → Q (.int r) H') : S__law_draw K mg [.ref p, .int n] H Q X :=
  ⟨_, _, rfl, p, n, rfl, rfl, pen_ok (h.rem r).head, n0, n1, fun H' k b hp k0 k1 => q H' ((h.rem r).turnPen b hp) k k0 k1⟩
local macro_rules | `(tactic| fail "g") => `(tactic| ((with_reducible apply use__law_draw); (assumption); (fail "rem"); (fail "sd"); (fail "sd"); intro _ _ _ _ _))
/-! ### _law_leads -/
abbrev N__law_leads : List Str := ["_law_word"]
theorem sc__law_leads : FnScope N__law_leads ["_law_word"] (defScope s__law_leads) := ⟨rfl, rfl, rfl, by decide +kernel, rfl, by decide +kernel, by decide +kernel⟩
def S__law_leads (K : PySem.W.Frag) (mg : Str → Option Value) : Sp := sp1 fun a H Q _ => ∃ F c, a = .int c ∧ Has F H ∧ ∀ H', Has F H' → Q (.bl (leadB c)) H'
theorem fn__law_leads (T : Top K mg) {f : Addr} {fd : FuncData} (D : DefAt K mg "_law_leads" s__law_leads ["_law_word"] f fd) : FnG Room P w K mg base 1 f fd ["_law_word"] (S__law_leads K mg) := by
  refine fn_of_body rl_room D.fn sc__law_leads (fun vs H Q E h => by obtain ⟨_, rfl, _⟩ := h; rfl) (fun cdv A outer s H vs Q E hr h => ?_)
  obtain ⟨a, rfl, h⟩ := h
  have nd : N__law_leads.Nodup := sc__law_leads.nd
  refine ⟨_, pss_one (ps_ret (pe_cmpR (op_in_seq) (pe_op (op_fdiv) (pv 0) (pe_int)) (pe_tup (pa_cons (pe_int) (pa_cons (pe_int) (pa_cons (pe_int) (pa_cons (pe_int) (pa_cons (pe_int) (pa_nil))))))) (by rfl))), ?_⟩
  try dsimp only [cxOf]
  obtain ⟨F, c, rfl, hh, q⟩ := h
  fail "go"
  rename_i lt H1 f1 h1
  refine ⟨lt, _, rfl, .inr (SqT.of (h1.at (by fail "mem"))), rfl, rfl, ?_⟩
  rw [inV_lead]
  exact q _ (by fail "has")
theorem cal__law_leads (T : Top K mg) : Cal Room P w K mg base 1 "_law_leads" [] (S__law_leads K mg) := by
  obtain ⟨f, fd, D⟩ := T.d__law_leads
  exact cal_mk D (fn__law_leads T D)
theorem use__law_leads {E : List Ent} {H : Hp} {Q : VK} {X : XK} {c : Int} (h : Has E H) (q : ∀ H', Has E H' → Q (.bl (leadB c)) H') : S__law_leads K mg [.int c] H Q X :=
  ⟨_, rfl, E, c, rfl, h, q⟩
local macro_rules | `(tactic| fail "g") => `(tactic| ((with_reducible apply use__law_leads); (assumption); intro _ _))
/-! ### _law_odd_address -/
abbrev N__law_odd_address : List Str := ["_law_pen", "_law_many", "_law_some"]
theorem sc__law_odd_address : FnScope N__law_odd_address ["_law_pen", "_law_many"] (defScope s__law_odd_address) := ⟨rfl, rfl, rfl, by decide +kernel, rfl, by decide +kernel, by decide +kernel⟩
def S__law_odd_address (K : PySem.W.Frag) (mg : Str → Option Value) : Sp := sp2 fun a b H Q _ => ∃ F p n, a = .ref p ∧ b = .int n ∧ Has (pen p :: F) H ∧ 1 ≤ n ∧ n ≤ 1000 ∧ ∀ H' c, Has (pen p :: F) H' → 0 ≤ c → c ≤ 4095 → Q (.int c) H'
theorem fn__law_odd_address (T : Top K mg) {f : Addr} {fd : FuncData} (D : DefAt K mg "_law_odd_address" s__law_odd_address ["_law_pen", "_law_many"] f fd) : FnG Room P w K mg base 4 f fd ["_law_pen", "_law_many"] (S__law_odd_address K mg) := by
  refine fn_of_body rl_room D.fn sc__law_odd_address (fun vs H Q E h => by obtain ⟨_, _, rfl, _⟩ := h; rfl) (fun cdv A outer s H vs Q E hr h => ?_)
  obtain ⟨a, b, rfl, h⟩ := h
  have nd : N__law_odd_address.Nodup := sc__law_odd_address.nd
  refine ⟨_, pss_cons (ps_set (i := 2) nd rfl (by first | exact Or.inl rfl | exact Or.inr rfl) (pe_lst (pa_cons (pe_op (op_add) (pe_int) (pe_c (cal__law_draw T) (hr.mono (by decide)) pass (pa_cons (pv 0) (pa_cons (pe_int) (pa_nil))))) (pa_cons (pe_op (op_add) (pe_int) (pe_c (cal__law_draw T) (hr.mono (by decide)) pass (pa_cons (pv 0) (pa_cons (pe_int) (pa_nil))))) (pa_cons (pe_op (op_add) (pe_int) (pe_c (cal__law_draw T) (hr.mono (by decide)) pass (pa_cons (pv 0) (pa_cons (pe_int) (pa_nil))))) (pa_cons (pe_op (op_add) (pe_int) (pe_c (cal__law_draw T) (hr.mono (by decide)) pass (pa_cons (pv 0) (pa_cons (pv 1) (pa_nil))))) (pa_nil)))))))
  (pss_one (ps_ret (pe_ix (ix_list) (pe_op (op_cat) (pv 2) (pe_lst (pa_cons (pe_c (cal__law_draw T) (hr.mono (by decide)) pass (pa_cons (pv 0) (pa_cons (pe_int) (pa_nil)))) (pa_nil)))) (pe_c (cal__law_draw T) (hr.mono (by decide)) pass (pa_cons (pv 0) (pa_cons (pe_int) (pa_nil)))) (fun _ _ => rfl)))), ?_⟩
  try dsimp only [cxOf]
  obtain ⟨F, p, n, rfl, rfl, hh, n0, n1, q⟩ := h
  fail "go"
  rename_i H1 h1 r1 r10 r11 H2 h2 r2 r20 r21 H3 h3 r3 r30 r31 H4 h4 r4 r40 r41 l5 H5 f5 h5 H6 h6 r6 r60 r61 l7 H7 f7 h7
  refine G.g_cat ‹_› (by fail "mem") (by fail "mem") (Nat.le_of_ble_eq_true rfl) fun lc H8 f8 h8 => ?_
  simp only [List.cons_append, List.nil_append] at h8
  fail "go"
  rename_i H9 h9 r9 r90 r91
  refine g_ixLI 0 4095 h9 (by fail "mem") r90 (by show r9 < 5; exact r91) (allV ⟨_, rfl, by omega, by omega⟩ (allV ⟨_, rfl, by omega, by omega⟩ (allV ⟨_, rfl, by omega, by omega⟩ (allV ⟨_, rfl, by omega, by omega⟩ (allV ⟨_, rfl, by omega, by omega⟩ allV0))))) fun c c0 c1 => q _ _ (by fail "has") c0 c1
theorem cal__law_odd_address (T : Top K mg) : Cal Room P w K mg base 4 "_law_odd_address" [] (S__law_odd_address K mg) := by
  obtain ⟨f, fd, D⟩ := T.d__law_odd_address
  exact cal_mk D (fn__law_odd_address T D)
theorem use__law_odd_address {E E1 : List Ent} {H : Hp} {Q : VK} {X : XK} {p : Addr} {n : Int} (h : Has E H) (r : Rem (pen p) E E1) (n0 : 1 ≤ n) (n1 : n ≤ 1000) (q : ∀ H' c, Has (pen p :: E1) H' → 0 ≤ c → c ≤ 4095 → Q (.int c) H') : S__law_odd_address K mg [.ref p, .int n] H Q X :=
  ⟨_, _, rfl, E1, p, n, rfl, rfl, h.rem r, n0, n1, q⟩
local macro_rules | `(tactic| fail "g") => `(tactic| ((with_reducible apply use__law_odd_address); (assumption); (fail "rem"); (fail "sd"); (fail "sd"); intro _ _ _ _ _))
/-! ### _law_image -/
abbrev N__law_image : List Str := ["_law_pen", "_law_size", "_law_many", "_law_words", "_law_at", "_law_kind", "_law_address"]
theorem sc__law_image : FnScope N__law_image ["_law_pen", "_law_size"] (defScope s__law_image) := ⟨rfl, rfl, rfl, by decide +kernel, rfl, by decide +kernel, by decide +kernel⟩
def S__law_image (K : PySem.W.Frag) (mg : Str → Option Value) : Sp := sp2 fun a b H Q _ => ∃ F p n, a = .ref p ∧ b = .int n ∧ Has (pen p :: F) H ∧ 1 ≤ n ∧ n ≤ 1000 ∧ ∀ H' l (ws : List Int), Has (cel l (.tup (ws.map V.int)) :: pen p :: F) H' → imgB (ws.map V.int) = true → ws.length ≤ n → Q (.ref l) H'
theorem fn__law_image (T : Top K mg) {f : Addr} {fd : FuncData} (D : DefAt K mg "_law_image" s__law_image ["_law_pen", "_law_size"] f fd) : FnG Room P w K mg base 5 f fd ["_law_pen", "_law_size"] (S__law_image K mg) := by
  refine fn_of_body rl_room D.fn sc__law_image (fun vs H Q E h => by obtain ⟨_, _, rfl, _⟩ := h; rfl) (fun cdv A outer s H vs Q E hr h => ?_)
  obtain ⟨a, b, rfl, h⟩ := h
  have nd : N__law_image.Nodup := sc__law_image.nd
  refine ⟨_, pss_cons (ps_set (i := 2) nd rfl (by first | exact Or.inl rfl | exact Or.inr rfl) (pe_op (op_add) (pe_int) (pe_c (cal__law_draw T) (hr.mono (by decide)) pass (pa_cons (pv 0) (pa_cons (pv 1) (pa_nil))))))
  (pss_cons (ps_set (i := 3) nd rfl (by first | exact Or.inl rfl | exact Or.inr rfl) (pe_lst (pa_nil)))
  (pss_cons (ps_for (passes_of rfl) rfl (pi_range1 rfl T.b_range (pa_cons (pv 2) (pa_nil))) (pg_name (i := 4) nd rfl (by first | exact Or.inl rfl | exact Or.inr rfl)) (pss_cons (ps_set (i := 5) nd rfl (by first | exact Or.inl rfl | exact Or.inr rfl) (pe_ix (ix_list) (pe_lst (pa_cons (pe_int) (pa_cons (pe_int) (pa_cons (pe_int) (pa_cons (pe_int) (pa_cons (pe_int) (pa_cons (pe_int) (pa_cons (pe_int) (pa_cons (pe_int) (pa_cons (pe_int) (pa_cons (pe_int) (pa_cons (pe_int) (pa_cons (pe_int) (pa_cons (pe_int) (pa_cons (pe_int) (pa_cons (pe_int) (pa_cons (pe_int) (pa_cons (pe_int) (pa_cons (pe_int) (pa_nil)))))))))))))))))))) (pe_c (cal__law_draw T) (hr.mono (by decide)) pass (pa_cons (pv 0) (pa_cons (pe_int) (pa_nil)))) (fun _ _ => rfl)))
  (pss_cons (ps_set (i := 6) nd rfl (by first | exact Or.inl rfl | exact Or.inr rfl) (pe_ifExp (pt_val (pe_c (cal__law_leads T) (hr.mono (by decide)) pass (pa_cons (pe_op (op_mul) (pv 5) (pe_int)) (pa_nil)))) (pe_c (cal__law_draw T) (hr.mono (by decide)) pass (pa_cons (pv 0) (pa_cons (pv 2) (pa_nil)))) (pe_c (cal__law_odd_address T) hr pass (pa_cons (pv 0) (pa_cons (pv 2) (pa_nil))))))
  (pss_one (ps_expr (pe_bm PySem.F.plainAttrs_list PySem.F.slot_list_append PySem.F.type_list_append (mt_append) (pv 3) (pa_cons (pe_op (op_add) (pe_op (op_mul) (pv 5) (pe_int)) (pv 6)) (pa_nil))))))))
  (pss_cons (ps_if (pt_cmpR (op_gt) (pe_c (cal__law_draw T) (hr.mono (by decide)) pass (pa_cons (pv 0) (pa_cons (pe_int) (pa_nil)))) (pe_int) (nomark _)) (pss_one (ps_asg (pe_int) (pg_sub (pv 3) (pe_un un_neg (pe_int)) (set_list)))) (pss_nil))
  (pss_one (ps_ret (pe_callTy (n_tuple_of) (by rfl) T.b_tuple (bt_tuple) (pa_cons (pv 3) (pa_nil)))))))), ?_⟩
  try dsimp only [cxOf]
  obtain ⟨F, p, n, rfl, rfl, hh, n0, n1, q⟩ := h
  fail "go"
  rename_i H1 h1 r r0 r1 l H2 f2 h2
  obtain ⟨z, hz⟩ : ∃ z : Nat, 1 + r = (z : Int) := ⟨(1 + r).toNat, by omega⟩
  rw [hz, Int.toNat_natCast]
  have hz1 : (z : Int) ≤ 1000 := by omega
  refine forR (fun i σ H => (∃ y4 y5 y6, σ = [some (.ref p), some (.int n), some (.int (z : Int)), some (.ref l), y4, y5, y6]) ∧ ∃ ws : List Int, Has (cel l (.lst (ws.map V.int)) :: pen p :: F) H ∧ ws.length = i ∧ ∀ c ∈ ws, 0 ≤ c ∧ c ≤ 65535 ∧ (leadB c = true → c % 4096 < z)) ⟨⟨_, _, _, rfl⟩, [], h2, rfl, fun _ h => absurd h List.not_mem_nil⟩ ?_ ?_
  · rintro i σ H3 hi ⟨⟨_, _, _, rfl⟩, ws, h3, hl, hw⟩
    fail "go"
    rename_i lk H4 f4 h4 H5 h5 r5 r50 r51
    refine g_ixLI 0 15 ‹_› (by fail "mem") r50 (by show r5 < 18; exact r51) (by fail "alli") fun k k0 k1 => ?_
    have fin : ∀ (H6 : Hp) (d : Int), 0 ≤ d → d < 4096 → (leadB (k * 4096) = true → d < z) → Has (cel l (.lst (ws.map V.int ++ [.int (k * 4096 + d)])) :: pen p :: F) H6 → ∃ ws : List Int, Has (cel l (.lst (ws.map V.int)) :: pen p :: F) H6 ∧ ws.length = i + 1 ∧ ∀ c ∈ ws, 0 ≤ c ∧ c ≤ 65535 ∧ (leadB c = true → c % 4096 < z) := fun H6 d d0 d1 pw h6 => by
      refine ⟨ws ++ [k * 4096 + d], by rw [List.map_append]; exact h6, by rw [List.length_append, hl]; rfl, fun c hc => ?_⟩
      rcases List.mem_append.mp hc with hc | hc
      · exact hw c hc
      · rw [List.mem_singleton.mp hc]
        refine ⟨by omega, by omega, fun e => ?_⟩
        rw [lead_at d0 d1] at e
        have := pw e
        omega
    fail "go"
    cases e : leadB (k * 4096) with
    | true =>
      fail "go"
      rename_i H7 h7 r7 r70 r71
      refine G.g_append h7 (by fail "rem") (by rw [List.length_map]; exact sl_mil (by omega)) fun H8 h8 => ?_
      fail "go"
      exact ⟨⟨_, _, _, rfl⟩, fin _ r7 r70 (by omega) (fun _ => r71) (h8.sub (by fail "sub"))⟩
    | false =>
      fail "go"
      rename_i H7 d h7 d0 d1
      refine G.g_append h7 (by fail "rem") (by rw [List.length_map]; exact sl_mil (by omega)) fun H8 h8 => ?_
      fail "go"
      exact ⟨⟨_, _, _, rfl⟩, fin _ d d0 (by omega) (fun z => absurd (e.symm.trans z) (by simp)) (h8.sub (by fail "sub"))⟩
  · rintro σ H3 ⟨⟨_, _, _, rfl⟩, ws, h3, hl, hw⟩
    have z1 : 1 ≤ z := by omega
    have fin : ∀ (H4 : Hp) (vs : List Int) (l1 : Addr), vs.length = z → (∀ c ∈ vs, 0 ≤ c ∧ c ≤ 65535 ∧ (leadB c = true → c % 4096 < z)) → Has (cel l1 (.tup (vs.map V.int)) :: cel l (.lst (vs.map V.int)) :: pen p :: F) H4 → Q (.ref l1) H4 := fun H4 vs l1 hv hw h4 =>
      q _ _ _ (h4.sub (by fail "sub")) (imgB_mk (by omega) (by omega) (by rw [hv]; exact hw)) (by omega)
    fail "go"
    rename_i H4 h4 r4 r40 r41
    refine br (fun e => ?_) (fun e => ?_)
    · fail "go"
      refine G.g_setL (j := z - 1) h4 (by fail "rem") (by rw [List.length_map, hl]; unfold ixN; rw [if_neg (by decide), if_pos (by omega)]; congr 1; omega) fun H5 h5 => ?_
      rw [← List.map_set] at h5
      fail "go"
      rename_i l1 H6 f6 h6
      refine fin _ _ _ (by rw [List.length_set]; exact hl) (fun c hc => ?_) h6
      rcases List.mem_or_eq_of_mem_set hc with hc | rfl
      · exact hw c hc
      · exact ⟨by decide, by decide, fun e => absurd e (by decide)⟩
    · fail "go"
      rename_i l1 H5 f5 h5
      exact fin _ ws _ hl hw (h5.sub (by fail "sub"))
theorem cal__law_image (T : Top K mg) : Cal Room P w K mg base 5 "_law_image" [] (S__law_image K mg) := by
  obtain ⟨f, fd, D⟩ := T.d__law_image
  exact cal_mk D (fn__law_image T D)
theorem use__law_image {E E1 : List Ent} {H : Hp} {Q : VK} {X : XK} {p : Addr} {n : Int} (h : Has E H) (r : Rem (pen p) E E1) (n0 : 1 ≤ n) (n1 : n ≤ 1000) (q : ∀ H' l (ws : List Int), Has (cel l (.tup (ws.map V.int)) :: pen p :: E1) H' → imgB (ws.map V.int) = true → ws.length ≤ n → Q (.ref l) H') : S__law_image K mg [.ref p, .int n] H Q X :=
  ⟨_, _, rfl, E1, p, n, rfl, rfl, h.rem r, n0, n1, q⟩
local macro_rules | `(tactic| fail "g") => `(tactic| ((with_reducible apply use__law_image); (assumption); (fail "rem"); (fail "sd"); (fail "sd"); intro _ _ _ _ _ _))
/-! ### _law_given -/
abbrev N__law_given : List Str := ["_law_pen", "_law_signs", "_law_lap"]
theorem sc__law_given : FnScope N__law_given ["_law_pen"] (defScope s__law_given) := ⟨rfl, rfl, rfl, by decide +kernel, rfl, by decide +kernel, by decide +kernel⟩
def S__law_given (K : PySem.W.Frag) (mg : Str → Option Value) : Sp := sp1 fun a H Q _ => ∃ F p, a = .ref p ∧ Has (pen p :: F) H ∧ ∀ H' (x : Str), Has (pen p :: F) H' → x.length ≤ 1000 → (∀ c ∈ x.cps.toList, c ≤ 65535) → Q (.str x) H'
theorem fn__law_given (T : Top K mg) {f : Addr} {fd : FuncData} (D : DefAt K mg "_law_given" s__law_given ["_law_pen"] f fd) : FnG Room P w K mg base 4 f fd ["_law_pen"] (S__law_given K mg) := by
  refine fn_of_body rl_room D.fn sc__law_given (fun vs H Q E h => by obtain ⟨_, rfl, _⟩ := h; rfl) (fun cdv A outer s H vs Q E hr h => ?_)
  obtain ⟨a, rfl, h⟩ := h
  have nd : N__law_given.Nodup := sc__law_given.nd
  refine ⟨_, pss_cons (ps_set (i := 1) nd rfl (by first | exact Or.inl rfl | exact Or.inr rfl) (pe_str))
  (pss_one (ps_ret (pe_bm PySem.F.plainAttrs_str PySem.F.slot_str_join PySem.F.type_str_join (n_join) (pe_str) (pa_cons (pe_lc (own := [("_law_lap", 2)]) (g := gName 2) (tt := tYes) rfl nd (pi_range1 rfl T.b_range (pa_cons (pe_c (cal__law_draw T) (hr.mono (by decide)) pass (pa_cons (pv 0) (pa_cons (pe_int) (pa_nil)))) (pa_nil))) (blkOk_by (own := [("_law_lap", 2)]) (N := N__law_given) (sc := defScope s__law_given) (by decide +kernel)) (fun _ _ _ _ _ => pg_name (i := 2) nd rfl (by first | exact Or.inl rfl | exact Or.inr rfl)) (fun _ _ _ _ _ => pts_nil) (fun _ _ _ _ _ => pe_ix (ix_str) (pv 1) (pe_c (cal__law_draw T) (hr.mono (by decide)) passL (pa_cons (pv 0) (pa_cons (pe_int) (pa_nil)))) (fun _ _ => rfl))) (pa_nil))))), ?_⟩
  try dsimp only [cxOf]
  obtain ⟨F, p, rfl, hh, q⟩ := h
  fail "go"
  rename_i H1 h1 r r0 r1
  refine lcW walk_range (fun i acc => ∃ ys : List Str, acc = ys.map V.str ∧ ys.length = i ∧ ∀ y ∈ ys, y.length ≤ 1 ∧ ∀ c ∈ y.cps.toList, c ≤ 65535) h1 ⟨[], rfl, rfl, fun _ h => absurd h List.not_mem_nil⟩ (fun _ _ => trivial) ?_ ?_
  · rintro D i acc x H3 H4 hi hl ⟨ys, rfl, hy, hys⟩ h3 ⟨e1, e2⟩
    subst e1 e2
    have z : i < sizeLine := sl_mil (by omega)
    fail "go"
    refine ⟨rfl, ?_⟩
    fail "go"
    refine ⟨p, 8, rfl, rfl, pen_ok (h3.get (by fail "mem")), by decide, by decide, fun H5 k b5 hp5 k0 k1 => ?_⟩
    have h5 := ((h3.rem (e := pen p) (by fail "rem")).turnPen b5 hp5)
    obtain ⟨c, hc, hcl⟩ : ∃ c, ("ab 0(\n~!" : Str).cps.toList[k.toNat]? = some c ∧ c ≤ 65535 := by
      have h1 : ∀ k < 8, (("ab 0(\n~!" : Str).cps.toList[k]?).any (fun c => decide (c ≤ 65535)) = true := by decide +kernel
      have h2 := h1 k.toNat (by omega)
      cases e : ("ab 0(\n~!" : Str).cps.toList[k.toNat]? with
      | none => rw [e] at h2; cases h2
      | some c => rw [e] at h2; exact ⟨c, rfl, of_decide_eq_true h2⟩
    refine ⟨_, _, c, rfl, rfl, by show 8 ≤ sizeLine; decide, atI_int k0 hc, ?_⟩
    refine lcE (h5.sub (by fail "sub")) hl z ⟨ys ++ [⟨#[c]⟩], by rw [List.map_append]; rfl, by rw [List.length_append, hy]; rfl, fun y hm => ?_⟩
    rcases List.mem_append.mp hm with hm | hm
    · exact hys y hm
    · rw [List.mem_singleton.mp hm]
      exact ⟨Nat.le_refl 1, fun d hd => by
        have : d ∈ [c] := hd
        rw [List.mem_singleton.mp this]
        exact hcl⟩
  · rintro D acc H3 hD hl ⟨ys, rfl, hy, hys⟩ h3
    have g1 := sum_lens (xs := ys) (k := 1) fun y hm => (hys y hm).1
    have g2 := join_len "" ys
    rw [show ("" : Str).length = 0 from rfl, Nat.mul_zero] at g2
    fail "go"
    refine ⟨"", D, ys, rfl, rfl, .inl (SqL.of h3.head), ?_, q H3 _ h3.tail (by omega) fun c hc => ?_⟩
    · rw [show ("" : Str).length = 0 from rfl, Nat.mul_zero]
      omega
    · obtain ⟨x, hx, hc2⟩ := mem_join0 hc
      exact (hys x hx).2 c hc2
theorem cal__law_given (T : Top K mg) : Cal Room P w K mg base 4 "_law_given" [] (S__law_given K mg) := by
  obtain ⟨f, fd, D⟩ := T.d__law_given
  exact cal_mk D (fn__law_given T D)
theorem use__law_given {E E1 : List Ent} {H : Hp} {Q : VK} {X : XK} {p : Addr} (h : Has E H) (r : Rem (pen p) E E1) (q : ∀ H' (x : Str), Has (pen p :: E1) H' → x.length ≤ 1000 → (∀ c ∈ x.cps.toList, c ≤ 65535) → Q (.str x) H') : S__law_given K mg [.ref p] H Q X :=
  ⟨_, rfl, E1, p, rfl, h.rem r, q⟩
local macro_rules | `(tactic| fail "g") => `(tactic| ((with_reducible apply use__law_given); (assumption); (fail "rem"); intro _ _ _ _ _))
/-! ### _law_made -/
abbrev N__law_made : List Str := ["_law_words", "_law_spot", "_law_given_here", "_law_cells"]
theorem sc__law_made : FnScope N__law_made ["_law_words", "_law_spot", "_law_given_here"] (defScope s__law_made) := ⟨rfl, rfl, rfl, by decide +kernel, rfl, by decide +kernel, by decide +kernel⟩
def S__law_made (K : PySem.W.Frag) (mg : Str → Option Value) : Sp := sp3 fun a b c H Q _ => ∃ F t, ∃ ws : List Int, ∃ k x, a = .ref t ∧ b = .int k ∧ c = .str x ∧ Has (cel t (.tup (ws.map V.int)) :: F) H ∧ ws.length ≤ 4096 ∧ ∀ H' p L W, Has (cel p (.dK (stK L W (mac0 ws k x))) :: cel L (.lst ((mac0 ws k x).cells.map V.int)) :: cel W (.lst []) :: cel t (.tup (ws.map V.int)) :: F) H' → Q (.ref p) H'
theorem fn__law_made (T : Top K mg) {f : Addr} {fd : FuncData} (D : DefAt K mg "_law_made" s__law_made ["_law_words", "_law_spot", "_law_given_here"] f fd) : FnG Room P w K mg base 1 f fd ["_law_words", "_law_spot", "_law_given_here"] (S__law_made K mg) := by
  refine fn_of_body rl_room D.fn sc__law_made (fun vs H Q E h => by obtain ⟨_, _, _, rfl, _⟩ := h; rfl) (fun cdv A outer s H vs Q E hr h => ?_)
  obtain ⟨a, b, c, rfl, h⟩ := h
  have nd : N__law_made.Nodup := sc__law_made.nd
  refine ⟨_, pss_cons (ps_set (i := 3) nd rfl (by first | exact Or.inl rfl | exact Or.inr rfl) (pe_op (op_cat) (pe_callTy (n_list_of) (by rfl) T.b_list (bt_list) (pa_cons (pv 0) (pa_nil))) (pe_op (op_rep) (pe_lst (pa_cons (pe_int) (pa_nil))) (pe_op (op_sub) (pe_int) (pe_callB (n_len_seq) (by rfl) T.b_len (bt_len) (pa_cons (pv 0) (pa_nil)))))))
  (pss_one (ps_ret (pe_disp (pps_cons (pe_str) (pv 3) (pps_cons (pe_str) (pv 1) (pps_cons (pe_str) (pe_int) (pps_cons (pe_str) (pv 2) (pps_cons (pe_str) (pe_int) (pps_cons (pe_str) (pe_lst (pa_nil)) (pps_cons (pe_str) (pe_bl) (pps_nil)))))))) rfl rfl (fun z => nomatch z) (by decide)))), ?_⟩
  try dsimp only [cxOf]
  obtain ⟨F, t, ws, k, x, rfl, rfl, rfl, hh, hz, q⟩ := h
  have el : (ws.map V.int).length = ws.length := List.length_map ..
  fail "go"
  rename_i l1 H1 f1 h1 p2 H2 f2 h2
  rw [el]
  refine G.g_rep h2 (by fail "mem") (by omega) (by omega) (by show 1 * _ ≤ _; exact Nat.le_of_lt (sl_mil (by omega))) fun l3 H3 f3 h3 => ?_
  have ec : List.map V.int ws ++ (List.replicate (4096 - ((ws.length : Nat) : Int)).toNat [V.int 0]).flatten = (mac0 ws k x).cells.map V.int := by
    rw [rep_ints, ← List.map_append, show (4096 - ((ws.length : Nat) : Int)).toNat = 4096 - ws.length by omega]
    rfl
  refine G.g_cat h3 (by fail "mem") (by fail "mem") (by rw [rep_ints, List.length_map, List.length_map, List.length_replicate]; exact Nat.le_of_lt (sl_mil (by omega))) fun L H4 f4 h4 => ?_
  rw [ec] at h4
  fail "go"
  rename_i p5 H5 f5 h5 W H6 f6 h6 H7 h7
  replace h7 : Has (cel p5 (.dK (stK L W (mac0 ws k x))) :: _) H7 := h7
  exact q _ _ _ _ (by fail "has")
theorem cal__law_made (T : Top K mg) : Cal Room P w K mg base 1 "_law_made" [] (S__law_made K mg) := by
  obtain ⟨f, fd, D⟩ := T.d__law_made
  exact cal_mk D (fn__law_made T D)
theorem use__law_made {E E1 : List Ent} {H : Hp} {Q : VK} {X : XK} {t : Addr} {ws : List Int} {k : Int} {x : Str} (h : Has E H) (r : Rem (cel t (.tup (ws.map V.int))) E E1) (hz : ws.length ≤ 4096) (q : ∀ H' p L W, Has (cel p (.dK (stK L W (mac0 ws k x))) :: cel L (.lst ((mac0 ws k x).cells.map V.int)) :: cel W (.lst []) :: cel t (.tup (ws.map V.int)) :: E1) H' → Q (.ref p) H') : S__law_made K mg [.ref t, .int k, .str x] H Q X :=
  ⟨_, _, _, rfl, E1, t, ws, k, x, rfl, rfl, rfl, h.rem r, hz, q⟩
/-! ### is_whole -/
abbrev N_is_whole : List Str := ["thing"]
theorem sc_is_whole : FnScope N_is_whole ["thing"] (defScope s_is_whole) := ⟨rfl, rfl, rfl, by decide +kernel, rfl, by decide +kernel, by decide +kernel⟩
def S_is_whole (K : PySem.W.Frag) (mg : Str → Option Value) : Sp := sp1 fun a H Q _ => ∃ n, Thing K H a n ∧ Q (.bl (isIntV a)) H
theorem fn_is_whole (T : Top K mg) {f : Addr} {fd : FuncData} (D : DefAt K mg "is_whole" s_is_whole ["thing"] f fd) : FnG Room P w K mg base 1 f fd ["thing"] (S_is_whole K mg) := by
  refine fn_of_body rl_room D.fn sc_is_whole (fun vs H Q E h => by obtain ⟨_, rfl, _⟩ := h; rfl) (fun cdv A outer s H vs Q E hr h => ?_)
  obtain ⟨a, rfl, h⟩ := h
  have nd : N_is_whole.Nodup := sc_is_whole.nd
  refine ⟨_, pss_one (ps_ret (pe_and (pe_callB call_isB (by rfl) T.b_isinstance (by decide +kernel) (pa_cons (pv 0) (pa_cons (pe_bltn (v := .ty "int") rfl T.b_int bt_int rfl) (pa_nil)))) (pe_one (pe_not (pe_callB call_isB (by rfl) T.b_isinstance (by decide +kernel) (pa_cons (pv 0) (pa_cons (pe_bltn (v := .ty "bool") rfl T.b_bool bt_bool rfl) (pa_nil)))))))), ?_⟩
  obtain ⟨n, th, q⟩ := h
  refine ⟨_, rfl, _, _, _, rfl, th, (by decide), _, rfl, ?_⟩
  have e := isInt_of th
  cases c : subB n "int" with
  | false =>
    rw [c] at e
    refine iteF ?_
    show Q (.bl false) H
    rw [show (false : Bool) = isIntV a from e]
    exact q
  | true =>
    rw [c] at e
    refine iteT ⟨_, rfl, _, _, _, rfl, th, (by decide), _, rfl, ?_⟩
    show Q (.bl (!subB n "bool")) H
    rw [show (!subB n "bool") = isIntV a from e]
    exact q
theorem cal_is_whole (T : Top K mg) : Cal Room P w K mg base 1 "is_whole" [] (S_is_whole K mg) := by
  obtain ⟨f, fd, D⟩ := T.d_is_whole
  exact cal_mk D (fn_is_whole T D)
/-! ### is_between -/
abbrev N_is_between : List Str := ["thing", "low", "high"]
theorem sc_is_between : FnScope N_is_between ["thing", "low", "high"] (defScope s_is_between) := ⟨rfl, rfl, rfl, by decide +kernel, rfl, by decide +kernel, by decide +kernel⟩
def S_is_between (K : PySem.W.Frag) (mg : Str → Option Value) : Sp := sp3 fun a b c H Q _ => ∃ n lo hi, Thing K H a n ∧ b = .int lo ∧ c = .int hi ∧ Q (.bl (btwV a lo hi)) H
theorem fn_is_between (T : Top K mg) {f : Addr} {fd : FuncData} (D : DefAt K mg "is_between" s_is_between ["thing", "low", "high"] f fd) : FnG Room P w K mg base 2 f fd ["thing", "low", "high"] (S_is_between K mg) := by
  refine fn_of_body rl_room D.fn sc_is_between (fun vs H Q E h => by obtain ⟨_, _, _, rfl, _⟩ := h; rfl) (fun cdv A outer s H vs Q E hr h => ?_)
  obtain ⟨a, b, c, rfl, h⟩ := h
  have nd : N_is_between.Nodup := sc_is_between.nd
  refine ⟨_, pss_one (ps_ret (pe_and (pe_c (cal_is_whole T) hr pass (pa_cons (pv 0) (pa_nil))) (pe_one (pe_chain (op_le) (op_le) (pv 1) (pv 0) (pv 2))))), ?_⟩
  obtain ⟨n, lo, hi, th, rfl, rfl, q⟩ := h
  refine ⟨_, rfl, _, rfl, n, th, _, rfl, ?_⟩
  cases a with
  | int i =>
    refine iteT ⟨_, rfl, _, rfl, _, _, rfl, rfl, _, rfl, ?_⟩
    cases e : decide (lo ≤ i) with
    | false =>
      refine iteF ?_
      rw [show btwV (.int i) lo hi = false by simp only [btwV, e, Bool.false_and]] at q
      exact q
    | true =>
      refine iteT ⟨_, rfl, _, _, rfl, rfl, ?_⟩
      rw [show btwV (.int i) lo hi = decide (i ≤ hi) by simp only [btwV, e, Bool.true_and]] at q
      exact q
  | _ => exact iteF q
theorem cal_is_between (T : Top K mg) : Cal Room P w K mg base 2 "is_between" [] (S_is_between K mg) := by
  obtain ⟨f, fd, D⟩ := T.d_is_between
  exact cal_mk D (fn_is_between T D)
theorem use_is_between {H : Hp} {Q : VK} {X : XK} {v : V} {n : String} {lo hi : Int} (th : Thing K H v n) (q : Q (.bl (btwV v lo hi)) H) : S_is_between K mg [v, .int lo, .int hi] H Q X :=
  ⟨_, _, _, rfl, n, lo, hi, th, rfl, rfl, q⟩
local macro_rules | `(tactic| fail "g") => `(tactic| ((with_reducible apply use_is_between); (fail "thing")))
/-! ### is_word -/
abbrev N_is_word : List Str := ["thing"]
theorem sc_is_word : FnScope N_is_word ["thing"] (defScope s_is_word) := ⟨rfl, rfl, rfl, by decide +kernel, rfl, by decide +kernel, by decide +kernel⟩
def S_is_word (K : PySem.W.Frag) (mg : Str → Option Value) : Sp := sp1 fun a H Q _ => ∃ n, Thing K H a n ∧ Q (.bl (btwV a 0 65535)) H
theorem fn_is_word (T : Top K mg) {f : Addr} {fd : FuncData} (D : DefAt K mg "is_word" s_is_word ["thing"] f fd) : FnG Room P w K mg base 3 f fd ["thing"] (S_is_word K mg) := by
  refine fn_of_body rl_room D.fn sc_is_word (fun vs H Q E h => by obtain ⟨_, rfl, _⟩ := h; rfl) (fun cdv A outer s H vs Q E hr h => ?_)
  obtain ⟨a, rfl, h⟩ := h
  have nd : N_is_word.Nodup := sc_is_word.nd
  refine ⟨_, pss_one (ps_ret (pe_c (cal_is_between T) hr pass (pa_cons (pv 0) (pa_cons (pe_int) (pa_cons (pe_gi T.c_MOST_WORD) (pa_nil)))))), ?_⟩
  obtain ⟨n, th, q⟩ := h
  exact ⟨_, rfl, ⟨_, _, _, rfl, n, _, _, th, rfl, rfl, q⟩⟩
theorem cal_is_word (T : Top K mg) : Cal Room P w K mg base 3 "is_word" [] (S_is_word K mg) := by
  obtain ⟨f, fd, D⟩ := T.d_is_word
  exact cal_mk D (fn_is_word T D)
/-! ### need_cells -/
abbrev N_need_cells : List Str := ["thing", "one"]
theorem sc_need_cells : FnScope N_need_cells ["thing"] (defScope s_need_cells) := ⟨rfl, rfl, rfl, by decide +kernel, rfl, by decide +kernel, by decide +kernel⟩
def S_need_cells (K : PySem.W.Frag) (mg : Str → Option Value) : Sp := sp1 fun a H Q E => (∃ n, Thing K H a n ∧ n ≠ "tuple" ∧ ∀ C, mg "NoCells" = some (.ref C) → E (.ref C) none H) ∨ ∃ p xs, a = .ref p ∧ SqT K H p xs ∧ (∀ x ∈ xs, ∃ n, Thing K H x n) ∧
  ∀ H', Same H H' → (cellsB xs = true → Q .non H') ∧ (cellsB xs = false → ∀ C, mg "NoCells" = some (.ref C) → E (.ref C) none H')
theorem fn_need_cells (T : Top K mg) {f : Addr} {fd : FuncData} (D : DefAt K mg "need_cells" s_need_cells ["thing"] f fd) : FnG Room P w K mg base 4 f fd ["thing"] (S_need_cells K mg) := by
  refine fn_of_body rl_room D.fn sc_need_cells (fun vs H Q E h => by obtain ⟨_, rfl, _⟩ := h; rfl) (fun cdv A outer s H vs Q E hr h => ?_)
  obtain ⟨a, rfl, h⟩ := h
  have nd : N_need_cells.Nodup := sc_need_cells.nd
  refine ⟨_, pss_one (ps_if (PW.pt (pw_or (pt_not (pt_val (pe_callB (call_isB) (by rfl) T.b_isinstance (bt_isinstance) (pa_cons (pv 0) (pa_cons (pe_bltn (v := .ty "tuple") rfl T.b_tuple bt_tuple rfl) (pa_nil)))))) (pw_or (pt_cmpR (op_gt) (pe_callB (n_len_seq) (by rfl) T.b_len (bt_len) (pa_cons (pv 0) (pa_nil))) (pe_gi T.c_MOST_CELLS) (nomark _)) (pw_or1 (pt_not (pt_val (pe_callB (cr_all rfl) (by rfl) T.b_all (bt_all) (pa_cons (pe_lc (own := [("one", 1)]) (g := gName 1) (tt := tYes) rfl nd (pi_tup (pv 0)) (blkOk_by (own := [("one", 1)]) (N := N_need_cells) (sc := defScope s_need_cells) (by decide +kernel)) (fun _ _ _ _ _ => pg_name (i := 1) nd rfl (by first | exact Or.inl rfl | exact Or.inr rfl)) (fun _ _ _ _ _ => pts_nil) (fun _ _ _ _ _ => pe_c (cal_is_word T) hr passL (pa_cons (pv 1) (pa_nil)))) (pa_nil))))))))) (pss_one (ps_raise rfl (takes_of rfl rfl rfl rfl) (G.pmk_own T.k_NoCells))) (pss_nil)), ?_⟩
  rcases h with ⟨n, th, hn, q⟩ | ⟨p, xs, rfl, hs, hx, q⟩
  · refine ⟨_, rfl, _, _, _, rfl, th, (by decide), _, rfl, ?_⟩
    have e : subB n "tuple" = false := by
      have := th.name
      simp only [plainTys, List.mem_cons, List.not_mem_nil, or_false] at this
      rcases this with rfl | rfl | rfl | rfl | rfl | rfl | rfl <;> first | rfl | exact absurd rfl hn
    rw [e]
    exact iteT (iteT q)
  · refine ⟨_, rfl, _, _, _, rfl, thing_tup hs, (by decide), _, rfl, ?_⟩
    refine iteF ⟨_, rfl, p, _, rfl, .inr hs, _, _, rfl, rfl, _, rfl, ?_⟩
    unfold cellsB at q
    cases e1 : decide ((xs.length : Int) ≤ 4096) with
    | false =>
      rw [e1, Bool.false_and] at q
      have : ¬ ((xs.length : Int) ≤ 4096) := of_decide_eq_false e1
      rw [decide_eq_true (show (4096 : Int) < xs.length by omega)]
      exact iteT (iteT ((q H (Same.refl H)).2 rfl))
    | true =>
      rw [e1, Bool.true_and] at q
      have hl : (xs.length : Int) ≤ 4096 := of_decide_eq_true e1
      rw [decide_eq_false (show ¬ (4096 : Int) < xs.length by omega)]
      refine iteF ⟨_, rfl, p, rfl, ⟨_, hs⟩, fun D hD => lc_map walk_tup (xs.map fun v => V.bl (btwV v 0 65535)) (by simp) (Nat.le_trans (by omega : xs.length ≤ 4096) (by decide)) (fun _ => sqT_up hs hD) ?_ ?_⟩
      · rintro i v H1 H2 R hi e ⟨rfl, hv⟩ hR
        obtain ⟨n, th⟩ := hx v (List.mem_of_getElem? hv)
        refine ⟨rfl, _, rfl, _, rfl, n, thing_same (by rw [e]; exact same_upd hD) th, hR _ ?_⟩
        rw [List.getElem?_map, hv]
        rfl
      · refine ⟨D, xs.map fun v => btwV v 0 65535, rfl, ?_, _, rfl, ?_⟩
        · rw [List.map_map]
          exact SqL.of upd_same
        rw [List.all_map]
        show if (!(xs.all fun v => btwV v 0 65535)) = true then _ else _
        obtain ⟨q1, q2⟩ := q _ (same_upd hD)
        cases e3 : xs.all fun v => btwV v 0 65535 with
        | false => exact iteT (q2 e3)
        | true => exact iteF (q1 e3)
theorem cal_need_cells (T : Top K mg) : Cal Room P w K mg base 4 "need_cells" [] (S_need_cells K mg) := by
  obtain ⟨f, fd, D⟩ := T.d_need_cells
  exact cal_mk D (fn_need_cells T D)
/-! ### is_address -/
abbrev N_is_address : List Str := ["thing"]
theorem sc_is_address : FnScope N_is_address ["thing"] (defScope s_is_address) := ⟨rfl, rfl, rfl, by decide +kernel, rfl, by decide +kernel, by decide +kernel⟩
def S_is_address (K : PySem.W.Frag) (mg : Str → Option Value) : Sp := sp1 fun a H Q _ => ∃ n, Thing K H a n ∧ Q (.bl (btwV a 0 4095)) H
theorem fn_is_address (T : Top K mg) {f : Addr} {fd : FuncData} (D : DefAt K mg "is_address" s_is_address ["thing"] f fd) : FnG Room P w K mg base 3 f fd ["thing"] (S_is_address K mg) := by
  refine fn_of_body rl_room D.fn sc_is_address (fun vs H Q E h => by obtain ⟨_, rfl, _⟩ := h; rfl) (fun cdv A outer s H vs Q E hr h => ?_)
  obtain ⟨a, rfl, h⟩ := h
  have nd : N_is_address.Nodup := sc_is_address.nd
  refine ⟨_, pss_one (ps_ret (pe_c (cal_is_between T) hr pass (pa_cons (pv 0) (pa_cons (pe_int) (pa_cons (pe_op (op_sub) (pe_gi T.c_MOST_CELLS) (pe_int)) (pa_nil)))))), ?_⟩
  obtain ⟨n, th, q⟩ := h
  exact ⟨_, rfl, _, _, rfl, rfl, ⟨_, _, _, rfl, n, _, _, th, rfl, rfl, q⟩⟩
theorem cal_is_address (T : Top K mg) : Cal Room P w K mg base 3 "is_address" [] (S_is_address K mg) := by
  obtain ⟨f, fd, D⟩ := T.d_is_address
  exact cal_mk D (fn_is_address T D)
/-! ### need_address -/
abbrev N_need_address : List Str := ["thing"]
theorem sc_need_address : FnScope N_need_address ["thing"] (defScope s_need_address) := ⟨rfl, rfl, rfl, by decide +kernel, rfl, by decide +kernel, by decide +kernel⟩
def S_need_address (K : PySem.W.Frag) (mg : Str → Option Value) : Sp := sp1 fun a H Q E => (btwV a 0 4095 = true ∧ Q .non H) ∨ (btwV a 0 4095 = false ∧ (∃ n, Thing K H a n) ∧ ∀ C, mg "NoAddress" = some (.ref C) → E (.ref C) none H)
theorem fn_need_address (T : Top K mg) {f : Addr} {fd : FuncData} (D : DefAt K mg "need_address" s_need_address ["thing"] f fd) : FnG Room P w K mg base 4 f fd ["thing"] (S_need_address K mg) := by
  refine fn_of_body rl_room D.fn sc_need_address (fun vs H Q E h => by obtain ⟨_, rfl, _⟩ := h; rfl) (fun cdv A outer s H vs Q E hr h => ?_)
  obtain ⟨a, rfl, h⟩ := h
  have nd : N_need_address.Nodup := sc_need_address.nd
  refine ⟨_, pss_one (ps_if (pt_not (pt_val (pe_c (cal_is_address T) hr pass (pa_cons (pv 0) (pa_nil))))) (pss_one (ps_raise rfl (takes_of rfl rfl rfl rfl) (G.pmk_own T.k_NoAddress))) (pss_nil)), ?_⟩
  rcases h with ⟨e, q⟩ | ⟨e, ⟨n, th⟩, q⟩
  · obtain ⟨i, rfl, _⟩ := btwV_ex e
    refine ⟨_, rfl, _, rfl, _, .int i, _, rfl, ?_⟩
    rw [e]
    exact iteF q
  · refine ⟨_, rfl, _, rfl, n, th, _, rfl, ?_⟩
    rw [e]
    exact iteT q
theorem cal_need_address (T : Top K mg) : Cal Room P w K mg base 4 "need_address" [] (S_need_address K mg) := by
  obtain ⟨f, fd, D⟩ := T.d_need_address
  exact cal_mk D (fn_need_address T D)
theorem use_need_address {H : Hp} {Q : VK} {X : XK} {i : Int} (i0 : 0 ≤ i) (i1 : i ≤ 4095) (q : Q .non H) : S_need_address K mg [.int i] H Q X :=
  ⟨_, rfl, .inl ⟨btwV_int ⟨i0, i1⟩, q⟩⟩
theorem bad_need_address {H : Hp} {Q : VK} {X : XK} {v : V} {n : String} (b0 : btwV v 0 4095 = false) (th : Thing K H v n) (q : ∀ C, mg "NoAddress" = some (.ref C) → X (.ref C) none H) : S_need_address K mg [v] H Q X :=
  ⟨_, rfl, .inr ⟨b0, ⟨_, th⟩, q⟩⟩
local macro_rules | `(tactic| fail "g") => `(tactic| ((with_reducible apply use_need_address); (fail "sd"); (fail "sd")))
/-! ### need_input -/
abbrev N_need_input : List Str := ["thing"]
theorem sc_need_input : FnScope N_need_input ["thing"] (defScope s_need_input) := ⟨rfl, rfl, rfl, by decide +kernel, rfl, by decide +kernel, by decide +kernel⟩
def S_need_input (K : PySem.W.Frag) (mg : Str → Option Value) : Sp := sp1 fun a H Q E => (∃ x, a = .str x ∧ Q .non H) ∨ (∃ n, Thing K H a n ∧ n ≠ "str" ∧ ∀ C, mg "NoInput" = some (.ref C) → E (.ref C) none H)
theorem fn_need_input (T : Top K mg) {f : Addr} {fd : FuncData} (D : DefAt K mg "need_input" s_need_input ["thing"] f fd) : FnG Room P w K mg base 1 f fd ["thing"] (S_need_input K mg) := by
  refine fn_of_body rl_room D.fn sc_need_input (fun vs H Q E h => by obtain ⟨_, rfl, _⟩ := h; rfl) (fun cdv A outer s H vs Q E hr h => ?_)
  obtain ⟨a, rfl, h⟩ := h
  have nd : N_need_input.Nodup := sc_need_input.nd
  refine ⟨_, pss_one (ps_if (pt_not (pt_val (pe_callB (call_isB) (by rfl) T.b_isinstance (bt_isinstance) (pa_cons (pv 0) (pa_cons (pe_bltn (v := .ty "str") rfl T.b_str bt_str rfl) (pa_nil)))))) (pss_one (ps_raise rfl (takes_of rfl rfl rfl rfl) (G.pmk_own T.k_NoInput))) (pss_nil)), ?_⟩
  rcases h with ⟨x, rfl, q⟩ | ⟨n, th, hn, q⟩
  · exact ⟨_, rfl, _, _, _, rfl, .str x, (by decide), _, rfl, iteF q⟩
  · refine ⟨_, rfl, _, _, _, rfl, th, (by decide), _, rfl, ?_⟩
    have e : subB n "str" = false := by
      have := th.name
      simp only [plainTys, List.mem_cons, List.not_mem_nil, or_false] at this
      rcases this with rfl | rfl | rfl | rfl | rfl | rfl | rfl <;> first | rfl | exact absurd rfl hn
    rw [e]
    exact iteT q
theorem cal_need_input (T : Top K mg) : Cal Room P w K mg base 1 "need_input" [] (S_need_input K mg) := by
  obtain ⟨f, fd, D⟩ := T.d_need_input
  exact cal_mk D (fn_need_input T D)
theorem use_need_input {H : Hp} {Q : VK} {X : XK} {x : Str} (q : Q .non H) : S_need_input K mg [.str x] H Q X := ⟨_, rfl, .inl ⟨x, rfl, q⟩⟩
theorem bad_need_input {H : Hp} {Q : VK} {X : XK} {v : V} {n : String} (th : Thing K H v n) (ne : n ≠ "str") (q : ∀ C, mg "NoInput" = some (.ref C) → X (.ref C) none H) : S_need_input K mg [v] H Q X := ⟨_, rfl, .inr ⟨n, th, ne, q⟩⟩
local macro_rules | `(tactic| fail "g") => `(tactic| with_reducible refine use_need_input ?_)
/-! ### Machine.__init__ -/
abbrev N_Machine____init__ : List Str := ["self", "cells", "place", "text"]
theorem sc_Machine____init__ : FnScope N_Machine____init__ ["self", "cells", "place", "text"] (defScope s_Machine____init__) := ⟨rfl, rfl, rfl, by decide +kernel, rfl, by decide +kernel, by decide +kernel⟩
def S_Machine____init__ (K : PySem.W.Frag) (mg : Str → Option Value) : Sp := sp4 fun a b c d H Q E => ∃ p C dx, a = .ref p ∧ mg "Machine" = some (.ref C) ∧ H p = some (.ins C dx []) ∧
  (∃ t ws pl x, b = .ref t ∧ SqT K H t (ws.map V.int) ∧ (∀ c ∈ ws, isW c) ∧ ws.length ≤ 4096 ∧ c = .int pl ∧ 0 ≤ pl ∧ pl ≤ 4095 ∧ d = .str x ∧
    ∀ H' L W, H L = none → H W = none → MacAt mg p L W (mac0 ws pl x) H' → (∀ b o, b ≠ p → H b = some o → H' b = some o) → Q .non H')
theorem fn_Machine____init__ (T : Top K mg) {C : Addr} {e0 : Addr} {f : Addr} {fd : FuncData} (D : InitAt K C "Machine.__init__" s_Machine____init__ [V.ref e0] [("place", V.int 0), ("text", V.str "")] f fd) : FnG Room P w K mg base 5 f fd ["self", "cells", "place", "text"] (S_Machine____init__ K mg) := by
  refine fn_of_bodyI D.fn sc_Machine____init__ (fun vs H Q E h => by obtain ⟨_, _, _, _, rfl, _⟩ := h; rfl) (fun cdv A outer s H vs Q E hr h => ?_)
  obtain ⟨a, b, c, d, rfl, h⟩ := h
  have nd : N_Machine____init__.Nodup := sc_Machine____init__.nd
  obtain ⟨C_Machine, k_Machine⟩ := T.k_Machine
  refine ⟨_, pss_cons (ps_expr (pe_c (cal_need_cells T) hr pass (pa_cons (pv 1) (pa_nil))))
  (pss_cons (ps_expr (pe_c (cal_need_address T) hr pass (pa_cons (pv 2) (pa_nil))))
  (pss_cons (ps_expr (pe_c (cal_need_input T) (hr.mono (by decide)) pass (pa_cons (pv 3) (pa_nil))))
  (pss_cons (ps_fld (pv 0) (pe_op (op_cat) (pe_callTy (n_list_of) (by rfl) T.b_list (bt_list) (pa_cons (pv 1) (pa_nil))) (pe_op (op_rep) (pe_lst (pa_cons (pe_int) (pa_nil))) (pe_op (op_sub) (pe_gi T.c_MOST_CELLS) (pe_callB (n_len_seq) (by rfl) T.b_len (bt_len) (pa_cons (pv 1) (pa_nil)))))) rfl)
  (pss_cons (ps_fld (pv 0) (pv 2) rfl)
  (pss_cons (ps_fld (pv 0) (pe_int) rfl)
  (pss_cons (ps_fld (pv 0) (pv 3) rfl)
  (pss_cons (ps_fld (pv 0) (pe_int) rfl)
  (pss_cons (ps_fld (pv 0) (pe_lst (pa_nil)) rfl)
  (pss_one (ps_fld (pv 0) (pe_bl) rfl)))))))))), ?_⟩
  obtain ⟨p, C, dx, rfl, hC, hp, t, ws, pl, x, rfl, hs, hw, hl, rfl, p0, p1, rfl, q⟩ := h
  rw [k_Machine.mg] at hC
  cases hC
  refine ⟨_, rfl, _, rfl, .inr ⟨t, _, rfl, hs, things_ints ws, fun H1 s1 => ⟨fun _ => ?_, fun e => absurd ((cellsB_of hw hl).symm.trans e) (by simp)⟩⟩⟩
  refine ⟨_, rfl, _, rfl, .inl ⟨btwV_int ⟨p0, p1⟩, ?_⟩⟩
  refine ⟨_, rfl, _, rfl, .inl ⟨x, rfl, ?_⟩⟩
  have hs1 := sqT_same s1 hs
  have hp1 := s1 _ _ hp
  refine ⟨_, rfl, t, _, rfl, .inr hs1, fun l1 n1 => ⟨by show 1 ≤ sizeLine; decide, fun l2 n2 => ⟨_, rfl, t, _, rfl, .inr (sqT_up (sqT_up hs1 n1) n2), _, _, rfl, rfl, ?_⟩⟩⟩
  have hlen : (List.map V.int ws).length = ws.length := List.length_map ..
  refine ⟨l2, (4096 : Int) - ((List.map V.int ws).length : Nat), _, rfl, rfl, upd_same, by rw [hlen]; omega, by rw [hlen]; omega, by rw [hlen]; exact Nat.le_trans (show 1 * (4096 - (ws.length : Int)).toNat ≤ 4096 by omega) (by decide), fun l3 n3 => ?_⟩
  have hcells : List.map V.int ws ++ (List.replicate ((4096 : Int) - ((List.map V.int ws).length : Nat)).toNat [V.int 0]).flatten = (mac0 ws pl x).cells.map V.int := by
    rw [rep_ints, hlen, ← List.map_append, show ((4096 : Int) - (ws.length : Nat)).toNat = 4096 - ws.length by omega]
    rfl
  have hclen : (List.map V.int ws).length + ((List.replicate ((4096 : Int) - ((List.map V.int ws).length : Nat)).toNat [V.int 0]).flatten).length ≤ sizeLine := by
    have e : (mac0 ws pl x).cells.length = 4096 := by
      show (ws ++ List.replicate (4096 - ws.length) 0).length = 4096
      rw [List.length_append, List.length_replicate]
      omega
    rw [← List.length_append, hcells, List.length_map, e]
    decide
  refine ⟨l1, l3, _, _, rfl, rfl, upd_old (upd_old upd_same n2) n3, upd_same, hclen, fun L n4 => ?_⟩
  rw [hcells]
  have s4 : Same H1 (upd (upd (upd (upd H1 l1 (.lst (ws.map V.int))) l2 (.lst [.int 0])) l3 (.lst (List.replicate ((4096 : Int) - ((List.map V.int ws).length : Nat)).toNat [V.int 0]).flatten)) L (.lst ((mac0 ws pl x).cells.map V.int))) :=
    Same.trans (same_upd n1) (Same.trans (same_upd n2) (Same.trans (same_upd n3) (same_upd n4)))
  have fL : H1 L = none := Same.free (Same.trans (same_upd n1) (Same.trans (same_upd n2) (same_upd n3))) n4
  have hL : upd (upd (upd (upd H1 l1 (.lst (ws.map V.int))) l2 (.lst [.int 0])) l3 (.lst (List.replicate ((4096 : Int) - ((List.map V.int ws).length : Nat)).toNat [V.int 0]).flatten)) L (.lst ((mac0 ws pl x).cells.map V.int)) L = some (.lst ((mac0 ws pl x).cells.map V.int)) := upd_same
  generalize upd (upd (upd (upd H1 l1 (.lst (ws.map V.int))) l2 (.lst [.int 0])) l3 (.lst (List.replicate ((4096 : Int) - ((List.map V.int ws).length : Nat)).toNat [V.int 0]).flatten)) L (.lst ((mac0 ws pl x).cells.map V.int)) = Hc at s4 hL ⊢
  have hpc := s4 _ _ hp1
  have nLp : L ≠ p := fun e => by rw [e, hp1] at fL; cases fL
  refine ⟨_, rfl, p, _, dx, _, rfl, hpc, k_Machine.cls, k_Machine.n_own_cells, (by show 0 < 1000; decide), ?_⟩
  refine ⟨_, rfl, _, rfl, p, _, dx, _, rfl, upd_same, k_Machine.cls, k_Machine.n_own_place, (by show 1 < 1000; decide), ?_⟩
  refine ⟨_, rfl, p, _, dx, _, rfl, upd_same, k_Machine.cls, k_Machine.n_own_hand, (by show 2 < 1000; decide), ?_⟩
  refine ⟨_, rfl, _, rfl, p, _, dx, _, rfl, upd_same, k_Machine.cls, k_Machine.n_own_text, (by show 3 < 1000; decide), ?_⟩
  refine ⟨_, rfl, p, _, dx, _, rfl, upd_same, k_Machine.cls, k_Machine.n_own_read, (by show 4 < 1000; decide), ?_⟩
  refine ⟨by show 0 ≤ sizeLine; decide, fun W n5 => ?_⟩
  refine ⟨_, rfl, p, _, dx, _, rfl, upd_old upd_same n5, k_Machine.cls, k_Machine.n_own_written, (by show 5 < 1000; decide), ?_⟩
  refine ⟨_, rfl, p, _, dx, _, rfl, upd_same, k_Machine.cls, k_Machine.n_own_ended, (by show 6 < 1000; decide), ?_⟩
  have nWp : W ≠ p := fun e => by rw [e, upd_same] at n5; cases n5
  have fW : Hc W = none := by
    simp only [upd_ne nWp] at n5
    exact n5
  have nLW : L ≠ W := fun e => by rw [e, fW] at hL; cases hL
  refine q _ L W (Same.free s1 fL) (Same.free s1 (Same.free s4 fW)) ⟨⟨C_Machine, dx, k_Machine.mg, upd_same⟩, ?_, ?_, nLW⟩ ?_
  · simp only [upd_ne nLp, upd_ne nLW]
    exact hL
  · simp only [upd_ne nWp, upd_same]
    rfl
  · intro b o nb hb
    have nbW : b ≠ W := fun e => by rw [e, Same.free s1 (Same.free s4 fW)] at hb; cases hb
    simp only [upd_ne nb, upd_ne nbW]
    exact s4 _ _ (s1 _ _ hb)
def gi_Machine____init___1_place_text {α : Type} : List α → List α → List α → List α → List α
  | [u0, u1], [d0], [], [w0, w1] => [u0, u1, w0, w1]
  | _, _, _, _ => []
def gv_Machine____init___1_place_text : List V → List V → List V
  | [u0, u1], [w0, w1] => [u0, u1, w0, w1]
  | _, _ => []
theorem gi_Machine____init___1_place_text_rel {e0 : Addr} {vs zs : List V} {us its mv ws : List Value} (r : Vals vs us) (z : Vals [V.ref e0] its) (y : Vals [] mv) (q : Vals zs ws) : Vals (gv_Machine____init___1_place_text vs zs) (gi_Machine____init___1_place_text us its mv ws) := by
  cases r with
  | nil => exact .nil
  | cons u0 rx =>
    cases rx with
    | nil => exact .nil
    | cons u1 rxx =>
      cases rxx with
      | cons _ _ => exact .nil
      | nil =>
        cases z with
        | cons d0 zx =>
          cases zx with
          | nil =>
            cases y with
            | nil =>
              cases q with
              | nil => exact .nil
              | cons w0 qx =>
                cases qx with
                | nil => exact .nil
                | cons w1 qxx =>
                  cases qxx with
                  | cons _ _ => exact .nil
                  | nil =>
                    exact .cons u0 (.cons u1 (.cons w0 (.cons w1 (.nil))))
theorem cal_Machine____init___1_place_text (T : Top K mg) {C : Addr} (kC : K_Machine K mg C) : CalI P w K mg base 5 "Machine" C 1 ["place", "text"] gv_Machine____init___1_place_text (S_Machine____init__ K mg) := by
  obtain ⟨e0, z_e0, f, fd, D⟩ := kC.i
  exact calI_mkD (n := 1) (ks := ["place", "text"]) D kC.mg (fn_Machine____init__ T D) [] (@gi_Machine____init___1_place_text) (fun z => nomatch z) (fun z => nomatch z) (fun q h => absurd h List.not_mem_nil) (fun r z y q => gi_Machine____init___1_place_text_rel r z y q) (fun _ _ _ _ _ _ _ us its mv ws l0 l1 l2 l3 => match us, its, mv, ws, l0, l1, l2, l3 with | [_, _], [_], [], [_, _], _, _, _, _ => (by refine ⟨_, rfl, ?_⟩; exact rfl))
theorem use_Machine____init__ {p t dx C : Addr} {ws : List Int} {pl : Int} {x : Str} {H : Hp} {Q : VK} {X : XK} (kC : mg "Machine" = some (.ref C)) (hp : H p = some (.ins C dx [])) (ht : SqT K H t (ws.map V.int)) (hw : ∀ c ∈ ws, isW c) (hl : ws.length ≤ 4096) (p0 : 0 ≤ pl) (p1 : pl ≤ 4095)
    (q : ∀ H' L W, H L = none → H W = none → MacAt mg p L W (mac0 ws pl x) H' → (∀ b o, b ≠ p → H b = some o → H' b = some o) → Q .non H') : S_Machine____init__ K mg [.ref p, .ref t, .int pl, .str x] H Q X :=
  ⟨_, _, _, _, rfl, p, C, dx, rfl, kC, hp, t, ws, pl, x, rfl, ht, hw, hl, rfl, p0, p1, rfl, q⟩
theorem mk_Machine_1_place_text {E : List Ent} {t C : Addr} {us : List V} {ws : List Int} {x : Str} {pl : Int} {H : Hp} {Q : VK} {X : XK} (h : Has E H) (kC : mg "Machine" = some (.ref C)) (r : cel t (.tup us) ∈ E) (iv : Ints us ws) (hw : ∀ c ∈ ws, isW c) (hl : ws.length ≤ 4096) (p0 : 0 ≤ pl) (p1 : pl ≤ 4095) (q : ∀ p L W H', Has (mac mg p L W (mac0 ws pl x) :: E) H' → Q (.ref p) H') :
    rMake C (S_Machine____init__ K mg) gv_Machine____init___1_place_text X [.ref t] [.int pl, .str x] H Q :=
  rMake_mac h r iv (fun p H2 Q2 dx hp ht k => use_Machine____init__ kC hp ht hw hl p0 p1 k) q
local macro_rules | `(tactic| fail "g") => `(tactic| ((with_reducible apply mk_Machine_1_place_text); (assumption); (fail "kc"); (fail "mem"); (fail "ints"); (fail "words"); (fail "len"); (fail "sd"); (fail "sd"); intro _ _ _ _ _))
/-! ### kind_by -/
abbrev N_kind_by : List Str := ["word"]
theorem sc_kind_by : FnScope N_kind_by ["word"] (defScope s_kind_by) := ⟨rfl, rfl, rfl, by decide +kernel, rfl, by decide +kernel, by decide +kernel⟩
def S_kind_by (K : PySem.W.Frag) (mg : Str → Option Value) : Sp := sp1 fun a H Q _ => ∃ i, a = .int i ∧ Q (.int (i / 4096)) H
theorem fn_kind_by (T : Top K mg) {f : Addr} {fd : FuncData} (D : DefAt K mg "kind_by" s_kind_by ["word"] f fd) : FnG Room P w K mg base 1 f fd ["word"] (S_kind_by K mg) := by
  refine fn_of_body rl_room D.fn sc_kind_by (fun vs H Q E h => by obtain ⟨_, rfl, _⟩ := h; rfl) (fun cdv A outer s H vs Q E hr h => ?_)
  obtain ⟨a, rfl, h⟩ := h
  have nd : N_kind_by.Nodup := sc_kind_by.nd
  refine ⟨_, pss_one (ps_ret (pe_op (op_fdiv) (pv 0) (pe_gi T.c_SPAN))), ?_⟩
  obtain ⟨i, rfl, q⟩ := h
  exact ⟨_, rfl, _, _, rfl, rfl, ⟨by decide, by decide⟩, q⟩
theorem cal_kind_by (T : Top K mg) : Cal Room P w K mg base 1 "kind_by" [] (S_kind_by K mg) := by
  obtain ⟨f, fd, D⟩ := T.d_kind_by
  exact cal_mk D (fn_kind_by T D)
theorem use_kind_by {H : Hp} {Q : VK} {X : XK} {i : Int} (q : Q (.int (i / 4096)) H) : S_kind_by K mg [.int i] H Q X := ⟨_, rfl, i, rfl, q⟩
local macro_rules | `(tactic| fail "g") => `(tactic| with_reducible refine use_kind_by ?_)
/-! ### is_leading -/
abbrev N_is_leading : List Str := ["word"]
theorem sc_is_leading : FnScope N_is_leading ["word"] (defScope s_is_leading) := ⟨rfl, rfl, rfl, by decide +kernel, rfl, by decide +kernel, by decide +kernel⟩
def S_is_leading (K : PySem.W.Frag) (mg : Str → Option Value) : Sp := sp1 fun a H Q _ => ∃ i, a = .int i ∧ Q (.bl (leadB i)) H
theorem fn_is_leading (T : Top K mg) {f : Addr} {fd : FuncData} (D : DefAt K mg "is_leading" s_is_leading ["word"] f fd) : FnG Room P w K mg base 2 f fd ["word"] (S_is_leading K mg) := by
  refine fn_of_body rl_room D.fn sc_is_leading (fun vs H Q E h => by obtain ⟨_, rfl, _⟩ := h; rfl) (fun cdv A outer s H vs Q E hr h => ?_)
  obtain ⟨a, rfl, h⟩ := h
  have nd : N_is_leading.Nodup := sc_is_leading.nd
  obtain ⟨a_LEADING, m_LEADING, s_LEADING⟩ := T.c_LEADING
  refine ⟨_, pss_one (ps_ret (pe_cmpR (op_in_seq) (pe_c (cal_kind_by T) hr pass (pa_cons (pv 0) (pa_nil))) (pe_glob (v := .ref a_LEADING) rfl m_LEADING rfl) (by rfl))), ?_⟩
  obtain ⟨i, rfl, q⟩ := h
  refine ⟨_, rfl, _, rfl, i, rfl, a_LEADING, _, rfl, .inr (s_LEADING.sq H), rfl, rfl, ?_⟩
  rw [← inV_lead] at q
  exact q
theorem cal_is_leading (T : Top K mg) : Cal Room P w K mg base 2 "is_leading" [] (S_is_leading K mg) := by
  obtain ⟨f, fd, D⟩ := T.d_is_leading
  exact cal_mk D (fn_is_leading T D)
theorem use_is_leading {H : Hp} {Q : VK} {X : XK} {i : Int} (q : Q (.bl (leadB i)) H) : S_is_leading K mg [.int i] H Q X := ⟨_, rfl, i, rfl, q⟩
local macro_rules | `(tactic| fail "g") => `(tactic| with_reducible refine use_is_leading ?_)
/-! ### address_by -/
abbrev N_address_by : List Str := ["word"]
theorem sc_address_by : FnScope N_address_by ["word"] (defScope s_address_by) := ⟨rfl, rfl, rfl, by decide +kernel, rfl, by decide +kernel, by decide +kernel⟩
def S_address_by (K : PySem.W.Frag) (mg : Str → Option Value) : Sp := sp1 fun a H Q _ => ∃ i, a = .int i ∧ Q (.int (i % 4096)) H
theorem fn_address_by (T : Top K mg) {f : Addr} {fd : FuncData} (D : DefAt K mg "address_by" s_address_by ["word"] f fd) : FnG Room P w K mg base 1 f fd ["word"] (S_address_by K mg) := by
  refine fn_of_body rl_room D.fn sc_address_by (fun vs H Q E h => by obtain ⟨_, rfl, _⟩ := h; rfl) (fun cdv A outer s H vs Q E hr h => ?_)
  obtain ⟨a, rfl, h⟩ := h
  have nd : N_address_by.Nodup := sc_address_by.nd
  refine ⟨_, pss_one (ps_ret (pe_op (op_mod) (pv 0) (pe_gi T.c_SPAN))), ?_⟩
  obtain ⟨i, rfl, q⟩ := h
  exact ⟨_, rfl, _, _, rfl, rfl, (by show (0 : Int) < 4096; decide), q⟩
theorem cal_address_by (T : Top K mg) : Cal Room P w K mg base 1 "address_by" [] (S_address_by K mg) := by
  obtain ⟨f, fd, D⟩ := T.d_address_by
  exact cal_mk D (fn_address_by T D)
theorem use_address_by {H : Hp} {Q : VK} {X : XK} {i : Int} (q : Q (.int (i % 4096)) H) : S_address_by K mg [.int i] H Q X := ⟨_, rfl, i, rfl, q⟩
local macro_rules | `(tactic| fail "g") => `(tactic| with_reducible refine use_address_by ?_)
/-! ### leads_within -/
abbrev N_leads_within : List Str := ["word", "length"]
theorem sc_leads_within : FnScope N_leads_within ["word", "length"] (defScope s_leads_within) := ⟨rfl, rfl, rfl, by decide +kernel, rfl, by decide +kernel, by decide +kernel⟩
def S_leads_within (K : PySem.W.Frag) (mg : Str → Option Value) : Sp := sp2 fun a b H Q _ => ∃ i n, a = .int i ∧ b = .int n ∧ Q (.bl (leadsV n (.int i))) H
theorem fn_leads_within (T : Top K mg) {f : Addr} {fd : FuncData} (D : DefAt K mg "leads_within" s_leads_within ["word", "length"] f fd) : FnG Room P w K mg base 3 f fd ["word", "length"] (S_leads_within K mg) := by
  refine fn_of_body rl_room D.fn sc_leads_within (fun vs H Q E h => by obtain ⟨_, _, rfl, _⟩ := h; rfl) (fun cdv A outer s H vs Q E hr h => ?_)
  obtain ⟨a, b, rfl, h⟩ := h
  have nd : N_leads_within.Nodup := sc_leads_within.nd
  refine ⟨_, pss_one (ps_ret (pe_or (pe_not (pe_c (cal_is_leading T) hr pass (pa_cons (pv 0) (pa_nil)))) (pe_one (pe_cmpR (op_lt) (pe_c (cal_address_by T) (hr.mono (by decide)) pass (pa_cons (pv 0) (pa_nil))) (pv 1) (nomark _))))), ?_⟩
  obtain ⟨i, n, rfl, rfl, q⟩ := h
  refine ⟨_, rfl, _, rfl, i, rfl, _, rfl, _, rfl, ?_⟩
  cases e : leadB i with
  | false =>
    refine iteT ?_
    simp only [leadsV, e, Bool.not_false, Bool.true_or] at q
    exact q
  | true =>
    refine iteF ⟨_, rfl, _, rfl, i, rfl, _, rfl, _, _, rfl, rfl, ?_⟩
    simp only [leadsV, e, Bool.not_true, Bool.false_or] at q
    exact q
theorem cal_leads_within (T : Top K mg) : Cal Room P w K mg base 3 "leads_within" [] (S_leads_within K mg) := by
  obtain ⟨f, fd, D⟩ := T.d_leads_within
  exact cal_mk D (fn_leads_within T D)
/-! ### is_image -/
abbrev N_is_image : List Str := ["thing", "one", "word"]
theorem sc_is_image : FnScope N_is_image ["thing"] (defScope s_is_image) := ⟨rfl, rfl, rfl, by decide +kernel, rfl, by decide +kernel, by decide +kernel⟩
def S_is_image (K : PySem.W.Frag) (mg : Str → Option Value) : Sp := sp1 fun a H Q _ => (∃ n, Thing K H a n ∧ n ≠ "tuple" ∧ Q (.bl false) H) ∨ ∃ p xs, a = .ref p ∧ SqT K H p xs ∧ (∀ x ∈ xs, ∃ n, Thing K H x n) ∧ ∀ H', Same H H' → Q (.bl (imgB xs)) H'
theorem fn_is_image (T : Top K mg) {f : Addr} {fd : FuncData} (D : DefAt K mg "is_image" s_is_image ["thing"] f fd) : FnG Room P w K mg base 4 f fd ["thing"] (S_is_image K mg) := by
  refine fn_of_body rl_room D.fn sc_is_image (fun vs H Q E h => by obtain ⟨_, rfl, _⟩ := h; rfl) (fun cdv A outer s H vs Q E hr h => ?_)
  obtain ⟨a, rfl, h⟩ := h
  have nd : N_is_image.Nodup := sc_is_image.nd
  refine ⟨_, pss_cons (ps_if (PW.pt (pw_or (pt_not (pt_val (pe_callB (call_isB) (by rfl) T.b_isinstance (bt_isinstance) (pa_cons (pv 0) (pa_cons (pe_bltn (v := .ty "tuple") rfl T.b_tuple bt_tuple rfl) (pa_nil)))))) (pw_or (pt_not (pt_chain (op_le) (op_le) (pe_int) (pe_callB (n_len_seq) (by rfl) T.b_len (bt_len) (pa_cons (pv 0) (pa_nil))) (pe_gi T.c_MOST_LENGTH))) (pw_or1 (pt_not (pt_val (pe_callB (cr_all rfl) (by rfl) T.b_all (bt_all) (pa_cons (pe_lc (own := [("one", 1)]) (g := gName 1) (tt := tYes) rfl nd (pi_tup (pv 0)) (blkOk_by (own := [("one", 1)]) (N := N_is_image) (sc := defScope s_is_image) (by decide +kernel)) (fun _ _ _ _ _ => pg_name (i := 1) nd rfl (by first | exact Or.inl rfl | exact Or.inr rfl)) (fun _ _ _ _ _ => pts_nil) (fun _ _ _ _ _ => pe_c (cal_is_word T) hr passL (pa_cons (pv 1) (pa_nil)))) (pa_nil))))))))) (pss_one (ps_ret (pe_bl))) (pss_nil))
  (pss_one (ps_ret (pe_callB (cr_all rfl) (by rfl) T.b_all (bt_all) (pa_cons (pe_lc (own := [("word", 2)]) (g := gName 2) (tt := tYes) rfl nd (pi_tup (pv 0)) (blkOk_by (own := [("word", 2)]) (N := N_is_image) (sc := defScope s_is_image) (by decide +kernel)) (fun _ _ _ _ _ => pg_name (i := 2) nd rfl (by first | exact Or.inl rfl | exact Or.inr rfl)) (fun _ _ _ _ _ => pts_nil) (fun _ _ _ _ _ => pe_c (cal_leads_within T) hr passL (pa_cons (pv 2) (pa_cons (pe_callB (n_lenK (K := K) rfl) (by rfl) T.b_len (bt_len) (pa_cons (pv 0) (pa_nil))) (pa_nil))))) (pa_nil))))), ?_⟩
  rcases h with ⟨n, th, hn, q⟩ | ⟨p, xs, rfl, hs, hx, q⟩
  · refine ⟨_, rfl, _, _, _, rfl, th, (by decide), _, rfl, ?_⟩
    have e : subB n "tuple" = false := by
      have := th.name
      simp only [plainTys, List.mem_cons, List.not_mem_nil, or_false] at this
      rcases this with rfl | rfl | rfl | rfl | rfl | rfl | rfl <;> first | rfl | exact absurd rfl hn
    rw [e]
    exact iteT (iteT q)
  · refine ⟨_, rfl, _, _, _, rfl, thing_tup hs, (by decide), _, rfl, ?_⟩
    refine iteF ⟨_, rfl, p, _, rfl, .inr hs, _, _, rfl, rfl, _, rfl, ?_⟩
    unfold imgB at q
    cases e1 : decide (1 ≤ (xs.length : Int)) with
    | false =>
      rw [e1, Bool.false_and] at q
      exact iteF ⟨_, rfl, iteT (iteT (q H (Same.refl H)))⟩
    | true =>
      rw [e1, Bool.true_and] at q
      refine iteT ⟨_, _, rfl, rfl, _, rfl, ?_⟩
      cases e2 : decide ((xs.length : Int) ≤ 1000) with
      | false =>
        rw [e2, Bool.false_and] at q
        exact iteT (iteT (q H (Same.refl H)))
      | true =>
        rw [e2, Bool.true_and] at q
        have hz : xs.length ≤ sizeLine := Nat.le_trans (by have := of_decide_eq_true e2; omega : xs.length ≤ 1000) (by decide)
        refine iteF ⟨_, rfl, p, rfl, ⟨_, hs⟩, fun D hD => lc_map walk_tup (xs.map fun v => V.bl (btwV v 0 65535)) (by simp) hz (fun _ => sqT_up hs hD) ?_ ?_⟩
        · rintro i v H1 H2 R hi e ⟨rfl, hv⟩ hR
          obtain ⟨n, th⟩ := hx v (List.mem_of_getElem? hv)
          refine ⟨rfl, _, rfl, _, rfl, n, thing_same (by rw [e]; exact same_upd hD) th, hR _ ?_⟩
          rw [List.getElem?_map, hv]
          rfl
        · have s1 : Same H (upd H D (.lst (xs.map fun v => V.bl (btwV v 0 65535)))) := same_upd hD
          refine ⟨D, xs.map fun v => btwV v 0 65535, rfl, ?_, _, rfl, ?_⟩
          · rw [List.map_map]
            exact SqL.of upd_same
          rw [List.all_map]
          show if (!(xs.all fun v => btwV v 0 65535)) = true then _ else _
          cases e3 : xs.all fun v => btwV v 0 65535 with
          | false =>
            rw [e3, Bool.false_and] at q
            exact iteT (q _ s1)
          | true =>
            rw [e3, Bool.true_and] at q
            refine iteF ⟨_, rfl, p, rfl, ⟨_, sqT_same s1 hs⟩, fun D2 hD2 => lc_map walk_tup (xs.map fun v => V.bl (leadsV xs.length v)) (by simp) hz (fun _ => sqT_up (sqT_same s1 hs) hD2) ?_ ?_⟩
            · rintro i v H1 H2 R hi e ⟨rfl, hv⟩ hR
              obtain ⟨k, rfl, _⟩ := btwV_ex (List.all_eq_true.mp e3 v (List.mem_of_getElem? hv))
              have hs2 : SqT K H2 p xs := by rw [e]; exact sqT_up (sqT_same s1 hs) hD2
              refine ⟨rfl, _, rfl, _, rfl, p, _, rfl, .inr hs2, _, _, rfl, k, _, rfl, rfl, hR _ ?_⟩
              rw [List.getElem?_map, hv]
              rfl
            · refine ⟨D2, xs.map fun v => leadsV xs.length v, rfl, ?_, ?_⟩
              · rw [List.map_map]
                exact SqL.of upd_same
              rw [List.all_map]
              exact q _ (Same.trans s1 (same_upd hD2))
theorem cal_is_image (T : Top K mg) : Cal Room P w K mg base 4 "is_image" [] (S_is_image K mg) := by
  obtain ⟨f, fd, D⟩ := T.d_is_image
  exact cal_mk D (fn_is_image T D)
/-! ### need_image -/
abbrev N_need_image : List Str := ["thing"]
theorem sc_need_image : FnScope N_need_image ["thing"] (defScope s_need_image) := ⟨rfl, rfl, rfl, by decide +kernel, rfl, by decide +kernel, by decide +kernel⟩
def S_need_image (K : PySem.W.Frag) (mg : Str → Option Value) : Sp := sp1 fun a H Q E => (∃ n, Thing K H a n ∧ n ≠ "tuple" ∧ ∀ C, mg "NoImage" = some (.ref C) → E (.ref C) none H) ∨ ∃ p xs, a = .ref p ∧ SqT K H p xs ∧ (∀ x ∈ xs, ∃ n, Thing K H x n) ∧
  ∀ H', Same H H' → (imgB xs = true → Q .non H') ∧ (imgB xs = false → ∀ C, mg "NoImage" = some (.ref C) → E (.ref C) none H')
theorem fn_need_image (T : Top K mg) {f : Addr} {fd : FuncData} (D : DefAt K mg "need_image" s_need_image ["thing"] f fd) : FnG Room P w K mg base 5 f fd ["thing"] (S_need_image K mg) := by
  refine fn_of_body rl_room D.fn sc_need_image (fun vs H Q E h => by obtain ⟨_, rfl, _⟩ := h; rfl) (fun cdv A outer s H vs Q E hr h => ?_)
  obtain ⟨a, rfl, h⟩ := h
  have nd : N_need_image.Nodup := sc_need_image.nd
  refine ⟨_, pss_one (ps_if (pt_not (pt_val (pe_c (cal_is_image T) hr pass (pa_cons (pv 0) (pa_nil))))) (pss_one (ps_raise rfl (takes_of rfl rfl rfl rfl) (G.pmk_own T.k_NoImage))) (pss_nil)), ?_⟩
  rcases h with ⟨n, th, hn, q⟩ | ⟨p, xs, rfl, hs, hx, q⟩
  · exact ⟨_, rfl, _, rfl, .inl ⟨n, th, hn, _, rfl, iteT q⟩⟩
  · refine ⟨_, rfl, _, rfl, .inr ⟨p, xs, rfl, hs, hx, fun H' s => ⟨_, rfl, ?_⟩⟩⟩
    obtain ⟨q1, q2⟩ := q H' s
    cases e : imgB xs with
    | true => exact iteF (q1 e)
    | false => exact iteT (q2 e)
theorem cal_need_image (T : Top K mg) : Cal Room P w K mg base 5 "need_image" [] (S_need_image K mg) := by
  obtain ⟨f, fd, D⟩ := T.d_need_image
  exact cal_mk D (fn_need_image T D)
theorem use_need_image {E : List Ent} {H : Hp} {Q : VK} {X : XK} {t : Addr} {ws : List Int} (h : Has E H) (m : cel t (.tup (ws.map V.int)) ∈ E) (im : imgB (ws.map V.int) = true) (q : ∀ H', Has E H' → Q .non H') : S_need_image K mg [.ref t] H Q X :=
  ⟨_, rfl, .inr ⟨t, _, rfl, SqT.of (h.at m), things_ints ws, fun H' s => ⟨fun _ => q H' (h.same s), fun z => absurd (im.symm.trans z) (by simp)⟩⟩⟩
theorem bad_need_image {E : List Ent} {H : Hp} {Q : VK} {X : XK} {v : V} {n : String} (h : Has E H) (th : Thing K H v n) (ne : n ≠ "tuple") (q : ∀ C, mg "NoImage" = some (.ref C) → X (.ref C) none H) : S_need_image K mg [v] H Q X :=
  ⟨_, rfl, .inl ⟨n, th, ne, q⟩⟩
theorem bad_need_imageT {E : List Ent} {H : Hp} {Q : VK} {X : XK} {p : Addr} {xs : List V} (h : Has E H) (m : SqT K H p xs) (hx : ∀ x ∈ xs, ∃ n, Thing K H x n) (im : imgB xs = false) (q : ∀ H', Has E H' → ∀ C, mg "NoImage" = some (.ref C) → X (.ref C) none H') : S_need_image K mg [.ref p] H Q X :=
  ⟨_, rfl, .inr ⟨p, xs, rfl, m, hx, fun H' s => ⟨fun z => absurd (im.symm.trans z) (by simp), fun _ C hC => q H' (h.same s) C hC⟩⟩⟩
local macro_rules | `(tactic| fail "g") => `(tactic| ((with_reducible apply use_need_image); (assumption); (fail "mem"); (assumption); intro _ _))
/-! ### need_base -/
abbrev N_need_base : List Str := ["base", "length"]
theorem sc_need_base : FnScope N_need_base ["base", "length"] (defScope s_need_base) := ⟨rfl, rfl, rfl, by decide +kernel, rfl, by decide +kernel, by decide +kernel⟩
def S_need_base (K : PySem.W.Frag) (mg : Str → Option Value) : Sp := sp2 fun a b H Q E => ∃ l : Int, b = .int l ∧ ((btwV a 127 (4096 - l) = true ∧ Q .non H) ∨ (btwV a 127 (4096 - l) = false ∧ (∃ n, Thing K H a n) ∧ ∀ C, mg "NoBase" = some (.ref C) → E (.ref C) none H))
theorem fn_need_base (T : Top K mg) {f : Addr} {fd : FuncData} (D : DefAt K mg "need_base" s_need_base ["base", "length"] f fd) : FnG Room P w K mg base 3 f fd ["base", "length"] (S_need_base K mg) := by
  refine fn_of_body rl_room D.fn sc_need_base (fun vs H Q E h => by obtain ⟨_, _, rfl, _⟩ := h; rfl) (fun cdv A outer s H vs Q E hr h => ?_)
  obtain ⟨a, b, rfl, h⟩ := h
  have nd : N_need_base.Nodup := sc_need_base.nd
  refine ⟨_, pss_one (ps_if (pt_not (pt_val (pe_c (cal_is_between T) hr pass (pa_cons (pv 0) (pa_cons (pe_gi T.c_LEAST_BASE) (pa_cons (pe_op (op_sub) (pe_gi T.c_MOST_CELLS) (pv 1)) (pa_nil))))))) (pss_one (ps_raise rfl (takes_of rfl rfl rfl rfl) (G.pmk_own T.k_NoBase))) (pss_nil)), ?_⟩
  try dsimp only [cxOf]
  obtain ⟨l, rfl, ⟨e, q⟩ | ⟨e, ⟨n, th⟩, q⟩⟩ := h
  · obtain ⟨i, rfl, _⟩ := btwV_ex e
    fail "go"
    exact q
  · fail "go"
    exact q
theorem cal_need_base (T : Top K mg) : Cal Room P w K mg base 3 "need_base" [] (S_need_base K mg) := by
  obtain ⟨f, fd, D⟩ := T.d_need_base
  exact cal_mk D (fn_need_base T D)
theorem use_need_base {H : Hp} {Q : VK} {X : XK} {k l : Int} (k0 : 127 ≤ k) (k1 : k + l ≤ 4096) (q : Q .non H) : S_need_base K mg [.int k, .int l] H Q X :=
  ⟨_, _, rfl, l, rfl, .inl ⟨btwV_int ⟨k0, by omega⟩, q⟩⟩
theorem bad_need_base {H : Hp} {Q : VK} {X : XK} {v : V} {n : String} {l : Int} (th : Thing K H v n) (e : btwV v 127 (4096 - l) = false) (q : ∀ C, mg "NoBase" = some (.ref C) → X (.ref C) none H) : S_need_base K mg [v, .int l] H Q X :=
  ⟨_, _, rfl, l, rfl, .inr ⟨e, ⟨n, th⟩, q⟩⟩
local macro_rules | `(tactic| fail "g") => `(tactic| ((with_reducible apply use_need_base); (fail "sd"); (fail "sd")))
/-! ### led_on -/
abbrev N_led_on : List Str := ["words", "by", "word"]
theorem sc_led_on : FnScope N_led_on ["words", "by"] (defScope s_led_on) := ⟨rfl, rfl, rfl, by decide +kernel, rfl, by decide +kernel, by decide +kernel⟩
def S_led_on (K : PySem.W.Frag) (mg : Str → Option Value) : Sp := sp2 fun a b H Q _ => ∃ F t, ∃ ws : List Int, ∃ k o, a = .ref t ∧ b = .int k ∧ Has (cel t o :: F) H ∧ (o = .lst (ws.map V.int) ∨ o = .tup (ws.map V.int)) ∧ ws.length ≤ 100000 ∧ ∀ H' l, Has (cel l (.tup ((ws.map (ledI k)).map V.int)) :: cel t o :: F) H' → Q (.ref l) H'
theorem fn_led_on (T : Top K mg) {f : Addr} {fd : FuncData} (D : DefAt K mg "led_on" s_led_on ["words", "by"] f fd) : FnG Room P w K mg base 3 f fd ["words", "by"] (S_led_on K mg) := by
  refine fn_of_body rl_room D.fn sc_led_on (fun vs H Q E h => by obtain ⟨_, _, rfl, _⟩ := h; rfl) (fun cdv A outer s H vs Q E hr h => ?_)
  obtain ⟨a, b, rfl, h⟩ := h
  have nd : N_led_on.Nodup := sc_led_on.nd
  refine ⟨_, pss_one (ps_ret (pe_callTy (n_tuple_of) (by rfl) T.b_tuple (bt_tuple) (pa_cons (pe_lc (own := [("word", 2)]) (g := gName 2) (tt := tYes) rfl nd (pi_seq (pv 0)) (blkOk_by (own := [("word", 2)]) (N := N_led_on) (sc := defScope s_led_on) (by decide +kernel)) (fun _ _ _ _ _ => pg_name (i := 2) nd rfl (by first | exact Or.inl rfl | exact Or.inr rfl)) (fun _ _ _ _ _ => pts_nil) (fun _ _ _ _ _ => pe_op (op_add) (pv 2) (pe_op (op_mul) (pv 1) (pe_callTy (n_int1) (by rfl) T.b_int (bt_int) (pa_cons (pe_c (cal_is_leading T) hr passL (pa_cons (pv 2) (pa_nil))) (pa_nil)))))) (pa_nil)))), ?_⟩
  try dsimp only [cxOf]
  obtain ⟨F, t, ws, k, o, rfl, rfl, hh, ho, hz, q⟩ := h
  fail "go"
  refine ⟨_, rfl, t, rfl, ?_⟩
  rcases ho with rfl | rfl
  · refine .inl ⟨⟨_, SqL.of (hh.at (by fail "mem"))⟩, ?_⟩
    refine lcW (walk_list (xs := ws.map V.int)) (fun i acc => acc = ((ws.take i).map (ledI k)).map V.int) hh rfl (fun H h => SqL.of (h.at (by fail "mem"))) ?_ ?_
    · rintro D i acc x H2 H3 hi hl rfl h3 hy
      obtain ⟨rfl, hx⟩ := hy
      rw [List.length_map] at hi
      have z : i < sizeLine := sl_mil (by omega)
      have hx2 : x = .int (ws[i]'hi) := by
        rw [List.getElem?_map, List.getElem?_eq_getElem hi] at hx
        exact (Option.some.inj hx).symm
      subst hx2
      fail "go"
      refine ⟨rfl, ?_⟩
      fail "go"
      have fin : ∀ y : Int, y = ledI k (ws[i]'hi) → List.map V.int ((ws.take i).map (ledI k)) ++ [V.int y] = List.map V.int ((ws.take (i + 1)).map (ledI k)) := fun y e => by
        rw [List.take_succ_eq_append_getElem hi, List.map_append, List.map_append, e]
        rfl
      refine ⟨_, rfl, _, rfl, ?_⟩
      cases e : leadB (ws[i]'hi) with
      | true =>
        fail "go"
        exact lcE h3 hl z (fin _ (by rw [ledI_of e]; simp))
      | false =>
        fail "go"
        exact lcE h3 hl z (fin _ (by rw [ledI_no e]; simp))
    · rintro D acc H2 hD hl rfl h3
      rw [List.length_map, List.take_length] at h3
      fail "go"
      exact q _ _ (by fail "has")
  · refine .inr ⟨⟨_, SqT.of (hh.at (by fail "mem"))⟩, ?_⟩
    refine lcW (walk_tup (xs := ws.map V.int)) (fun i acc => acc = ((ws.take i).map (ledI k)).map V.int) hh rfl (fun H h => SqT.of (h.at (by fail "mem"))) ?_ ?_
    · rintro D i acc x H2 H3 hi hl rfl h3 hy
      obtain ⟨rfl, hx⟩ := hy
      rw [List.length_map] at hi
      have z : i < sizeLine := sl_mil (by omega)
      have hx2 : x = .int (ws[i]'hi) := by
        rw [List.getElem?_map, List.getElem?_eq_getElem hi] at hx
        exact (Option.some.inj hx).symm
      subst hx2
      fail "go"
      refine ⟨rfl, ?_⟩
      fail "go"
      have fin : ∀ y : Int, y = ledI k (ws[i]'hi) → List.map V.int ((ws.take i).map (ledI k)) ++ [V.int y] = List.map V.int ((ws.take (i + 1)).map (ledI k)) := fun y e => by
        rw [List.take_succ_eq_append_getElem hi, List.map_append, List.map_append, e]
        rfl
      refine ⟨_, rfl, _, rfl, ?_⟩
      cases e : leadB (ws[i]'hi) with
      | true =>
        fail "go"
        exact lcE h3 hl z (fin _ (by rw [ledI_of e]; simp))
      | false =>
        fail "go"
        exact lcE h3 hl z (fin _ (by rw [ledI_no e]; simp))
    · rintro D acc H2 hD hl rfl h3
      rw [List.length_map, List.take_length] at h3
      fail "go"
      exact q _ _ (by fail "has")
theorem cal_led_on (T : Top K mg) : Cal Room P w K mg base 3 "led_on" [] (S_led_on K mg) := by
  obtain ⟨f, fd, D⟩ := T.d_led_on
  exact cal_mk D (fn_led_on T D)
theorem use_led_on {E E1 : List Ent} {H : Hp} {Q : VK} {X : XK} {t : Addr} {ws : List Int} {k : Int} {o : HO} (h : Has E H) (r : Rem (cel t o) E E1) (ho : o = .lst (ws.map V.int) ∨ o = .tup (ws.map V.int)) (hz : ws.length ≤ 100000) (q : ∀ H' l, Has (cel l (.tup ((ws.map (ledI k)).map V.int)) :: cel t o :: E1) H' → Q (.ref l) H') : S_led_on K mg [.ref t, .int k] H Q X :=
  ⟨_, _, rfl, E1, t, ws, k, o, rfl, rfl, h.rem r, ho, hz, q⟩
/-! ### placed -/
abbrev N_placed : List Str := ["image", "base"]
theorem sc_placed : FnScope N_placed ["image", "base"] (defScope s_placed) := ⟨rfl, rfl, rfl, by decide +kernel, rfl, by decide +kernel, by decide +kernel⟩
def S_placed (K : PySem.W.Frag) (mg : Str → Option Value) : Sp := sp2 fun a b H Q E => (∃ F t, ∃ ws : List Int, ∃ k, a = .ref t ∧ b = .int k ∧ Has (cel t (.tup (ws.map V.int)) :: F) H ∧ imgB (ws.map V.int) = true ∧ 127 ≤ k ∧ k + ws.length ≤ 4096 ∧ ∀ H' l, Has (cel l (.tup ((ws.map (ledI k)).map V.int)) :: cel t (.tup (ws.map V.int)) :: F) H' → Q (.ref l) H') ∨ (∃ F, Has F H ∧ (∀ H', Has F H' → ∃ n, Thing K H' b n) ∧ ((((∃ n, Thing K H a n ∧ n ≠ "tuple") ∨ ∃ p xs, a = .ref p ∧ SqT K H p xs ∧ (∀ x ∈ xs, ∃ n, Thing K H x n) ∧ imgB xs = false) ∧ ∀ H', Has F H' → ∀ C, mg "NoImage" = some (.ref C) → E (.ref C) none H') ∨ ∃ t, ∃ ws : List Int, a = .ref t ∧ cel t (.tup (ws.map V.int)) ∈ F ∧ imgB (ws.map V.int) = true ∧ btwV b 127 (4096 - (ws.length : Nat)) = false ∧ ∀ H', Has F H' → ∀ C, mg "NoBase" = some (.ref C) → E (.ref C) none H'))
theorem fn_placed (T : Top K mg) {f : Addr} {fd : FuncData} (D : DefAt K mg "placed" s_placed ["image", "base"] f fd) : FnG Room P w K mg base 6 f fd ["image", "base"] (S_placed K mg) := by
  refine fn_of_body rl_room D.fn sc_placed (fun vs H Q E h => by obtain ⟨_, _, rfl, _⟩ := h; rfl) (fun cdv A outer s H vs Q E hr h => ?_)
  obtain ⟨a, b, rfl, h⟩ := h
  have nd : N_placed.Nodup := sc_placed.nd
  refine ⟨_, pss_cons (ps_expr (pe_c (cal_need_image T) hr pass (pa_cons (pv 0) (pa_nil))))
  (pss_cons (ps_expr (pe_c (cal_need_base T) (hr.mono (by decide)) pass (pa_cons (pv 1) (pa_cons (pe_callB (n_len_seq) (by rfl) T.b_len (bt_len) (pa_cons (pv 0) (pa_nil))) (pa_nil)))))
  (pss_one (ps_ret (pe_c (cal_led_on T) (hr.mono (by decide)) pass (pa_cons (pv 0) (pa_cons (pv 1) (pa_nil))))))), ?_⟩
  try dsimp only [cxOf]
  rcases h with ⟨F, t, ws, k, rfl, rfl, hh, im, k0, k1, q⟩ | ⟨F, hh, tb, ⟨ha, q⟩ | ⟨t, ws, rfl, m, im, eb, q⟩⟩
  · fail "go"
    have el : (ws.map V.int).length = ws.length := List.length_map ..
    have w1000 : ws.length ≤ 1000 := imgB_len im
    rw [el]
    fail "go"
    exact use_led_on ‹_› (by fail "rem") (.inr rfl) (by omega) fun H l h => q H l h
  · rcases ha with ⟨n, th, ne⟩ | ⟨p, xs, rfl, hs, hx, im⟩
    · fail "go"
      exact bad_need_image hh th ne fun C hC => q _ hh C hC
    · fail "go"
      exact bad_need_imageT hh hs hx im fun H' h' C hC => q _ h' C hC
  · have el : (ws.map V.int).length = ws.length := List.length_map ..
    fail "go"
    refine use_need_image hh m im fun H1 h1 => ?_
    fail "go"
    refine ⟨t, _, rfl, .inr (SqT.of (h1.at m)), ?_⟩
    rw [el]
    obtain ⟨nb, tb⟩ := tb _ h1
    refine G.g_nil ?_
    exact bad_need_base tb eb fun C hC => q _ h1 C hC
theorem cal_placed (T : Top K mg) : Cal Room P w K mg base 6 "placed" [] (S_placed K mg) := by
  obtain ⟨f, fd, D⟩ := T.d_placed
  exact cal_mk D (fn_placed T D)
theorem use_placed {E E1 : List Ent} {H : Hp} {Q : VK} {X : XK} {t : Addr} {ws : List Int} {k : Int} (h : Has E H) (r : Rem (cel t (.tup (ws.map V.int))) E E1) (im : imgB (ws.map V.int) = true) (k0 : 127 ≤ k) (k1 : k + ws.length ≤ 4096) (q : ∀ H' l, Has (cel l (.tup ((ws.map (ledI k)).map V.int)) :: cel t (.tup (ws.map V.int)) :: E1) H' → Q (.ref l) H') : S_placed K mg [.ref t, .int k] H Q X :=
  ⟨_, _, rfl, .inl ⟨E1, t, ws, k, rfl, rfl, h.rem r, im, k0, k1, q⟩⟩
theorem bad_placed_image {E : List Ent} {H : Hp} {Q : VK} {X : XK} {v b : V} (h : Has E H) (tb : ∀ H', Has E H' → ∃ n, Thing K H' b n) (hv : (∃ n, Thing K H v n ∧ n ≠ "tuple") ∨ ∃ p xs, v = .ref p ∧ SqT K H p xs ∧ (∀ x ∈ xs, ∃ n, Thing K H x n) ∧ imgB xs = false) (q : ∀ H', Has E H' → ∀ C, mg "NoImage" = some (.ref C) → X (.ref C) none H') : S_placed K mg [v, b] H Q X :=
  ⟨_, _, rfl, .inr ⟨E, h, tb, .inl ⟨hv, q⟩⟩⟩
theorem bad_placed_base {E : List Ent} {H : Hp} {Q : VK} {X : XK} {t : Addr} {ws : List Int} {b : V} (h : Has E H) (tb : ∀ H', Has E H' → ∃ n, Thing K H' b n) (m : cel t (.tup (ws.map V.int)) ∈ E) (im : imgB (ws.map V.int) = true) (eb : btwV b 127 (4096 - (ws.length : Nat)) = false) (q : ∀ H', Has E H' → ∀ C, mg "NoBase" = some (.ref C) → X (.ref C) none H') : S_placed K mg [.ref t, b] H Q X :=
  ⟨_, _, rfl, .inr ⟨E, h, tb, .inr ⟨t, ws, rfl, m, im, eb, q⟩⟩⟩
/-! ### loaded -/
abbrev N_loaded : List Str := ["image", "base", "text", "words"]
theorem sc_loaded : FnScope N_loaded ["image", "base", "text"] (defScope s_loaded) := ⟨rfl, rfl, rfl, by decide +kernel, rfl, by decide +kernel, by decide +kernel⟩
def S_loaded (K : PySem.W.Frag) (mg : Str → Option Value) : Sp := sp3 fun a b c H Q E => (∃ F t, ∃ ws : List Int, ∃ k x, a = .ref t ∧ b = .int k ∧ c = .str x ∧ Has (cel t (.tup (ws.map V.int)) :: F) H ∧ imgB (ws.map V.int) = true ∧ 127 ≤ k ∧ k ≤ 4095 ∧ k + ws.length ≤ 4096 ∧ ∀ H' p L W, Has (mac mg p L W (macI ws k x) :: cel t (.tup (ws.map V.int)) :: F) H' → Q (.ref p) H') ∨ (∃ F t, ∃ ws : List Int, a = .ref t ∧ Has F H ∧ cel t (.tup (ws.map V.int)) ∈ F ∧ imgB (ws.map V.int) = true ∧ (∀ H', Has F H' → ∃ n, Thing K H' b n) ∧ btwV b 127 (4096 - (ws.length : Nat)) = false ∧ ∀ H', Has F H' → ∀ C, mg "NoBase" = some (.ref C) → E (.ref C) none H')
theorem fn_loaded (T : Top K mg) {f : Addr} {fd : FuncData} (D : DefKAt K mg "loaded" s_loaded [V.int 128] [("text", V.str "")] f fd) : FnG Room P w K mg base 8 f fd ["image", "base", "text"] (S_loaded K mg) := by
  refine fn_of_bodyI D.fn sc_loaded (fun vs H Q E h => by obtain ⟨_, _, _, rfl, _⟩ := h; rfl) (fun cdv A outer s H vs Q E hr h => ?_)
  obtain ⟨a, b, c, rfl, h⟩ := h
  have nd : N_loaded.Nodup := sc_loaded.nd
  obtain ⟨C_Machine, k_Machine⟩ := T.k_Machine
  refine ⟨_, pss_cons (ps_set (i := 3) nd rfl (by first | exact Or.inl rfl | exact Or.inr rfl) (pe_c (cal_placed T) (hr.mono (by decide)) pass (pa_cons (pv 0) (pa_cons (pv 1) (pa_nil)))))
  (pss_cons (ps_expr (pe_c (cal_need_input T) (hr.mono (by decide)) pass (pa_cons (pv 2) (pa_nil))))
  (pss_one (ps_ret (pe_i (cal_Machine____init___1_place_text T k_Machine) (hr.mono (by decide)) pass (pa_cons (pe_op (op_catT) (pe_op (G.op_rep1) (pe_tup (pa_cons (pe_int) (pa_nil))) (pv 1)) (pv 3)) (pa_nil)) (pk_cons (pv 1) (pk_cons (pv 2) (pk_nil))))))), ?_⟩
  try dsimp only [cxOf]
  rcases h with ⟨F, t, ws, k, x, rfl, rfl, rfl, hh, im, k0, k1, k2, q⟩ | ⟨F, t, ws, rfl, hh, m, im, tb, eb, q⟩
  · fail "go"
    refine use_placed hh (by fail "rem") im k0 k2 fun H1 l h1 => ?_
    fail "go"
    rename_i p1 H2 f1 h2 l2 H3 f3 h3
    have w1 := imgB_len2 im
    have hw : ∀ c ∈ List.replicate k.toNat (0 : Int) ++ ws.map (ledI k), isW c := fun c hc => by
      rcases List.mem_append.mp hc with hc | hc
      · rw [List.eq_of_mem_replicate hc]; exact ⟨by decide, by decide⟩
      · exact led_words im (by omega) k2 c hc
    refine G.g_catT h3 (by fail "mem") (by fail "mem") (fun e => ?_) (fun e => ?_) ?_ fun l3 H4 f4 h4 => ?_
    · have := congrArg List.length e
      rw [List.length_replicate] at this
      have : k.toNat = 0 := this
      omega
    · have := congrArg List.length e
      rw [List.length_map, List.length_map] at this
      have : ws.length = 0 := this
      omega
    · rw [List.length_replicate, List.length_map, List.length_map]
      exact Nat.le_of_lt (sl_mil (by omega))
    rw [ints_zeros] at h4
    fail "go"
    rename_i p5 L5 W5 H5 h5
    exact q _ _ _ _ (h5.sub (E' := mac mg _ _ _ (mac0 (List.replicate k.toNat 0 ++ ws.map (ledI k)) k x) :: cel t (.tup (ws.map V.int)) :: F) (by fail "sub"))
  · fail "go"
    exact bad_placed_base hh tb m im eb fun H1 h1 C hC => q H1 h1 C hC
def gk_loaded_1 {α : Type} : List α → List α → List α → List α → List α
  | [u0], [d0], [m0], [] => [u0, d0, m0]
  | _, _, _, _ => []
theorem gk_loaded_1_rel {vs dz mz zs : List V} {us its mv ws : List Value} (r : Vals vs us) (z : Vals dz its) (y : Vals mz mv) (q : Vals zs ws) : Vals (gk_loaded_1 vs dz mz zs) (gk_loaded_1 us its mv ws) := by
  cases r with
  | nil => exact .nil
  | cons u0 rx =>
    cases rx with
    | cons _ _ => exact .nil
    | nil =>
      cases z with
      | nil => exact .nil
      | cons d0 zx =>
        cases zx with
        | cons _ _ => exact .nil
        | nil =>
          cases y with
          | nil => exact .nil
          | cons m0 yx =>
            cases yx with
            | cons _ _ => exact .nil
            | nil =>
              cases q with
              | cons _ _ => exact .nil
              | nil =>
                exact .cons u0 (.cons d0 (.cons m0 (.nil)))
theorem cal_loaded_k1 (T : Top K mg) : CalK Room P w K mg base 8 "loaded" [] (fun vs zs => gk_loaded_1 vs [V.int 128] [V.str ""] zs) (S_loaded K mg) := by
  obtain ⟨f, fd, D⟩ := T.d_loaded
  exact calK_mkKG D (fn_loaded T D) [("text", V.str "")] (@gk_loaded_1) (fun z => nomatch z) (fun z => nomatch z) (by decide +kernel) (fun r z y q => gk_loaded_1_rel r z y q) (fun _ _ _ _ _ _ _ us its mv ws l1 l2 l3 => match us, its, mv, ws, l1, l2, l3 with | [_], [_], [_], [], _, _, _ => ⟨_, rfl, ⟨_, _, _, _, _, _, rfl, rfl, rfl⟩⟩)
def gk_loaded_1_text {α : Type} : List α → List α → List α → List α → List α
  | [u0], [d0], [], [w0] => [u0, d0, w0]
  | _, _, _, _ => []
theorem gk_loaded_1_text_rel {vs dz mz zs : List V} {us its mv ws : List Value} (r : Vals vs us) (z : Vals dz its) (y : Vals mz mv) (q : Vals zs ws) : Vals (gk_loaded_1_text vs dz mz zs) (gk_loaded_1_text us its mv ws) := by
  cases r with
  | nil => exact .nil
  | cons u0 rx =>
    cases rx with
    | cons _ _ => exact .nil
    | nil =>
      cases z with
      | nil => exact .nil
      | cons d0 zx =>
        cases zx with
        | cons _ _ => exact .nil
        | nil =>
          cases y with
          | cons _ _ => exact .nil
          | nil =>
            cases q with
            | nil => exact .nil
            | cons w0 qx =>
              cases qx with
              | cons _ _ => exact .nil
              | nil =>
                exact .cons u0 (.cons d0 (.cons w0 (.nil)))
theorem cal_loaded_k1_text (T : Top K mg) : CalK Room P w K mg base 8 "loaded" ["text"] (fun vs zs => gk_loaded_1_text vs [V.int 128] [] zs) (S_loaded K mg) := by
  obtain ⟨f, fd, D⟩ := T.d_loaded
  exact calK_mkKG D (fn_loaded T D) [] (@gk_loaded_1_text) (fun z => nomatch z) (fun z => nomatch z) (by decide +kernel) (fun r z y q => gk_loaded_1_text_rel r z y q) (fun _ _ _ _ _ _ _ us its mv ws l1 l2 l3 => match us, its, mv, ws, l1, l2, l3 with | [_], [_], [], [_], _, _, _ => ⟨_, rfl, rfl⟩)
def gk_loaded_2_text {α : Type} : List α → List α → List α
  | [u0, u1], [w0] => [u0, u1, w0]
  | _, _ => []
theorem gk_loaded_2_text_rel {vs zs : List V} {us ws : List Value} (r : Vals vs us) (q : Vals zs ws) : Vals (gk_loaded_2_text vs zs) (gk_loaded_2_text us ws) := by
  cases r with
  | nil => exact .nil
  | cons u0 rx =>
    cases rx with
    | nil => exact .nil
    | cons u1 rxx =>
      cases rxx with
      | cons _ _ => exact .nil
      | nil =>
        cases q with
        | nil => exact .nil
        | cons w0 qx =>
          cases qx with
          | cons _ _ => exact .nil
          | nil =>
            exact .cons u0 (.cons u1 (.cons w0 (.nil)))
theorem cal_loaded_k2_text (T : Top K mg) : CalK Room P w K mg base 8 "loaded" ["text"] gk_loaded_2_text (S_loaded K mg) := by
  obtain ⟨f, fd, D⟩ := T.d_loaded
  refine calK_mkKD (g := @gk_loaded_2_text) D (fun z => nomatch z) (fun z => nomatch z) (fn_loaded T D) (fun r q => gk_loaded_2_text_rel r q) (fun _ _ _ _ _ _ _ us its ws hl h2 => ?_)
  match us, its, ws, hl, h2 with
  | [_, _], [_], [_], _, _ => exact ⟨_, rfl, rfl⟩
theorem use_loaded {E E1 : List Ent} {H : Hp} {Q : VK} {X : XK} {t : Addr} {ws : List Int} {k : Int} {x : Str} (h : Has E H) (r : Rem (cel t (.tup (ws.map V.int))) E E1) (im : imgB (ws.map V.int) = true) (k0 : 127 ≤ k) (k1 : k ≤ 4095) (k2 : k + ws.length ≤ 4096) (q : ∀ H' p L W, Has (mac mg p L W (macI ws k x) :: cel t (.tup (ws.map V.int)) :: E1) H' → Q (.ref p) H') : S_loaded K mg [.ref t, .int k, .str x] H Q X :=
  ⟨_, _, _, rfl, .inl ⟨E1, t, ws, k, x, rfl, rfl, rfl, h.rem r, im, k0, k1, k2, q⟩⟩
theorem bad_loaded_base {E : List Ent} {H : Hp} {Q : VK} {X : XK} {t : Addr} {ws : List Int} {b : V} {x : V} (h : Has E H) (tb : ∀ H', Has E H' → ∃ n, Thing K H' b n) (m : cel t (.tup (ws.map V.int)) ∈ E) (im : imgB (ws.map V.int) = true) (eb : btwV b 127 (4096 - (ws.length : Nat)) = false) (q : ∀ H', Has E H' → ∀ C, mg "NoBase" = some (.ref C) → X (.ref C) none H') : S_loaded K mg [.ref t, b, x] H Q X :=
  ⟨_, _, _, rfl, .inr ⟨E, t, ws, rfl, h, m, im, tb, eb, q⟩⟩
/-! ### need_steps -/
abbrev N_need_steps : List Str := ["thing"]
theorem sc_need_steps : FnScope N_need_steps ["thing"] (defScope s_need_steps) := ⟨rfl, rfl, rfl, by decide +kernel, rfl, by decide +kernel, by decide +kernel⟩
def S_need_steps (K : PySem.W.Frag) (mg : Str → Option Value) : Sp := sp1 fun a H Q E => (btwV a 0 200000 = true ∧ Q .non H) ∨ (btwV a 0 200000 = false ∧ (∃ n, Thing K H a n) ∧ ∀ C, mg "NoSteps" = some (.ref C) → E (.ref C) none H)
theorem fn_need_steps (T : Top K mg) {f : Addr} {fd : FuncData} (D : DefAt K mg "need_steps" s_need_steps ["thing"] f fd) : FnG Room P w K mg base 3 f fd ["thing"] (S_need_steps K mg) := by
  refine fn_of_body rl_room D.fn sc_need_steps (fun vs H Q E h => by obtain ⟨_, rfl, _⟩ := h; rfl) (fun cdv A outer s H vs Q E hr h => ?_)
  obtain ⟨a, rfl, h⟩ := h
  have nd : N_need_steps.Nodup := sc_need_steps.nd
  refine ⟨_, pss_one (ps_if (pt_not (pt_val (pe_c (cal_is_between T) hr pass (pa_cons (pv 0) (pa_cons (pe_int) (pa_cons (pe_gi T.c_MOST_STEPS) (pa_nil))))))) (pss_one (ps_raise rfl (takes_of rfl rfl rfl rfl) (G.pmk_own T.k_NoSteps))) (pss_nil)), ?_⟩
  rcases h with ⟨e, q⟩ | ⟨e, ⟨n, th⟩, q⟩
  · obtain ⟨i, rfl, _⟩ := btwV_ex e
    refine ⟨_, rfl, ⟨_, _, _, rfl, _, _, _, .int i, rfl, rfl, _, rfl, ?_⟩⟩
    rw [e]
    exact iteF q
  · refine ⟨_, rfl, ⟨_, _, _, rfl, n, _, _, th, rfl, rfl, _, rfl, ?_⟩⟩
    rw [e]
    exact iteT q
theorem cal_need_steps (T : Top K mg) : Cal Room P w K mg base 3 "need_steps" [] (S_need_steps K mg) := by
  obtain ⟨f, fd, D⟩ := T.d_need_steps
  exact cal_mk D (fn_need_steps T D)
theorem use_need_steps {H : Hp} {Q : VK} {X : XK} {k : Int} (k0 : 0 ≤ k) (k1 : k ≤ 200000) (q : Q .non H) : S_need_steps K mg [.int k] H Q X :=
  ⟨_, rfl, .inl ⟨btwV_int ⟨k0, k1⟩, q⟩⟩
theorem bad_need_steps {H : Hp} {Q : VK} {X : XK} {v : V} {n : String} (b0 : btwV v 0 200000 = false) (th : Thing K H v n) (q : ∀ C, mg "NoSteps" = some (.ref C) → X (.ref C) none H) : S_need_steps K mg [v] H Q X :=
  ⟨_, rfl, .inr ⟨b0, ⟨_, th⟩, q⟩⟩
local macro_rules | `(tactic| fail "g") => `(tactic| ((with_reducible show S_need_steps _ _ _ _ _ _); (show S_need_steps _ _ [_] _ _ _); (with_reducible apply bad_need_steps); (fail "nb"); (fail "thing"); intro _ _))
local macro_rules | `(tactic| fail "g") => `(tactic| ((with_reducible show S_need_steps _ _ _ _ _ _); (show S_need_steps _ _ [_] _ _ _); (with_reducible apply use_need_steps); (fail "sd"); (fail "sd")))
/-! ### Machine.leads -/
abbrev N_Machine__leads : List Str := ["self", "kind"]
theorem sc_Machine__leads : FnScope N_Machine__leads ["self", "kind"] (defScope s_Machine__leads) := ⟨rfl, rfl, rfl, by decide +kernel, rfl, by decide +kernel, by decide +kernel⟩
def S_Machine__leads (K : PySem.W.Frag) (mg : Str → Option Value) : Sp := sp2 fun a b H Q _ => ∃ p L W m k, a = .ref p ∧ b = .int k ∧ MacAt mg p L W m H ∧ Q (.bl (leadsM k m.hand)) H
theorem fn_Machine__leads (T : Top K mg) {C : Addr} {f : Addr} {fd : FuncData} (D : MethAt K C "leads" "Machine.leads" s_Machine__leads ["self", "kind"] f fd) : FnG Room P w K mg base 1 f fd ["self", "kind"] (S_Machine__leads K mg) := by
  refine fn_of_body rl_room D.fn sc_Machine__leads (fun vs H Q E h => by obtain ⟨_, _, rfl, _⟩ := h; rfl) (fun cdv A outer s H vs Q E hr h => ?_)
  obtain ⟨a, b, rfl, h⟩ := h
  have nd : N_Machine__leads.Nodup := sc_Machine__leads.nd
  obtain ⟨C_Machine, k_Machine⟩ := T.k_Machine
  refine ⟨_, pss_cons (ps_if (PW.pt (pw_or (pt_cmpR (op_eq) (pv 1) (pe_gi T.c_ZERO) (nomark _)) (pw_or1 (pt_cmpR (op_eq) (pv 1) (pe_gi T.c_OTHER) (nomark _))))) (pss_one (ps_ret (pe_cmpR (op_eq) (pe_cmpR (op_eq) (pe_fld (pv 0) rfl) (pe_int) (nomark _)) (pe_cmpR (op_eq) (pv 1) (pe_gi T.c_ZERO) (nomark _)) (nomark _)))) (pss_nil))
  (pss_cons (ps_if (PW.pt (pw_or (pt_cmpR (op_eq) (pv 1) (pe_gi T.c_SMALL) (nomark _)) (pw_or1 (pt_cmpR (op_eq) (pv 1) (pe_gi T.c_GREAT) (nomark _))))) (pss_one (ps_ret (pe_cmpR (op_eq) (pe_cmpR (op_lt) (pe_fld (pv 0) rfl) (pe_gi T.c_HALF) (nomark _)) (pe_cmpR (op_eq) (pv 1) (pe_gi T.c_SMALL) (nomark _)) (nomark _)))) (pss_nil))
  (pss_one (ps_ret (pe_cmpR (op_eq) (pv 1) (pe_gi T.c_GO) (nomark _))))), ?_⟩
  obtain ⟨p, L, W, m, k, rfl, rfl, hm, q⟩ := h
  obtain ⟨dx, hp⟩ := hm.insC k_Machine.mg
  unfold leadsM at q
  by_cases h9 : k = 9
  · rw [if_pos (.inl h9)] at q
    refine ⟨_, rfl, rfl, _, rfl, iteTe (eqT h9) (iteT ⟨_, rfl, p, _, dx, _, _, rfl, hp, k_Machine.cls, k_Machine.n_own_hand, rfl, rfl, _, rfl, rfl, rfl, ?_⟩)⟩
    rw [eqBl, eqI, eqI]
    exact q
  refine ⟨_, rfl, rfl, _, rfl, iteFe (eqF h9) ⟨_, rfl, rfl, _, rfl, ?_⟩⟩
  by_cases h13 : k = 13
  · rw [if_pos (.inr h13)] at q
    refine iteTe (eqT h13) ⟨_, rfl, p, _, dx, _, _, rfl, hp, k_Machine.cls, k_Machine.n_own_hand, rfl, rfl, _, rfl, rfl, rfl, ?_⟩
    rw [eqBl, eqI, eqI]
    exact q
  rw [if_neg (fun z => z.elim h9 h13)] at q
  refine iteFe (eqF h13) ?_
  by_cases h10 : k = 10
  · rw [if_pos (.inl h10)] at q
    refine ⟨_, rfl, rfl, _, rfl, iteTe (eqT h10) (iteT ⟨_, rfl, p, _, dx, _, _, rfl, hp, k_Machine.cls, k_Machine.n_own_hand, rfl, _, _, rfl, rfl, _, rfl, rfl, rfl, ?_⟩)⟩
    rw [eqBl, eqI]
    exact q
  refine ⟨_, rfl, rfl, _, rfl, iteFe (eqF h10) ⟨_, rfl, rfl, _, rfl, ?_⟩⟩
  by_cases h14 : k = 14
  · rw [if_pos (.inr h14)] at q
    refine iteTe (eqT h14) ⟨_, rfl, p, _, dx, _, _, rfl, hp, k_Machine.cls, k_Machine.n_own_hand, rfl, _, _, rfl, rfl, _, rfl, rfl, rfl, ?_⟩
    rw [eqBl, eqI]
    exact q
  rw [if_neg (fun z => z.elim h10 h14)] at q
  refine iteFe (eqF h14) ⟨_, rfl, rfl, ?_⟩
  rw [eqI]
  exact q
theorem cal_Machine__leads (T : Top K mg) {C : Addr} (kC : K_Machine K mg C) : CalM P w K mg base 1 C "leads" (S_Machine__leads K mg) := by
  obtain ⟨f, fd, D⟩ := kC.m_leads
  exact calM_mk kC.cls D (fn_Machine__leads T D)
/-! ### Machine.take_sign -/
abbrev N_Machine__take_sign : List Str := ["self"]
theorem sc_Machine__take_sign : FnScope N_Machine__take_sign ["self"] (defScope s_Machine__take_sign) := ⟨rfl, rfl, rfl, by decide +kernel, rfl, by decide +kernel, by decide +kernel⟩
def S_Machine__take_sign (K : PySem.W.Frag) (mg : Str → Option Value) : Sp := sp1 fun a H Q _ => ∃ p L W m, a = .ref p ∧ MacAt mg p L W m H ∧ m.Wf ∧ (m.read = m.text.length → Q (.int 0) H) ∧ (m.read ≠ m.text.length → ∀ H', MacAt mg p L W { m with read := m.read + 1 } H' → ButM p L W H H' → Q (.int m.sign) H')
theorem fn_Machine__take_sign (T : Top K mg) {C : Addr} {f : Addr} {fd : FuncData} (D : MethAt K C "take_sign" "Machine.take_sign" s_Machine__take_sign ["self"] f fd) : FnG Room P w K mg base 1 f fd ["self"] (S_Machine__take_sign K mg) := by
  refine fn_of_body rl_room D.fn sc_Machine__take_sign (fun vs H Q E h => by obtain ⟨_, rfl, _⟩ := h; rfl) (fun cdv A outer s H vs Q E hr h => ?_)
  obtain ⟨a, rfl, h⟩ := h
  have nd : N_Machine__take_sign.Nodup := sc_Machine__take_sign.nd
  obtain ⟨C_Machine, k_Machine⟩ := T.k_Machine
  refine ⟨_, pss_cons (ps_if (pt_cmpR (op_eq) (pe_fld (pv 0) rfl) (pe_callB n_len_str (by rfl) T.b_len PySem.boot_len (pa_cons (pe_fld (pv 0) rfl) (pa_nil))) (nomark _)) (pss_one (ps_ret (pe_int))) (pss_nil))
  (pss_cons (ps_fldaug (pv 0) (pe_int) in_add)
  (pss_one (ps_ret (pe_callB (n_ord) (by rfl) T.b_ord (bt_ord) (pa_cons (pe_ix (ix_str) (pe_fld (pv 0) rfl) (pe_op (op_sub) (pe_fld (pv 0) rfl) (pe_int)) (fun _ _ => rfl)) (pa_nil)))))), ?_⟩
  obtain ⟨p, L, W, m, rfl, hm, wf, q0, q1⟩ := h
  obtain ⟨dx, hp⟩ := hm.insC k_Machine.mg
  refine ⟨_, rfl, p, _, dx, _, _, rfl, hp, k_Machine.cls, k_Machine.n_own_read, rfl, _, rfl, p, _, dx, _, _, rfl, hp, k_Machine.cls, k_Machine.n_own_text, rfl, _, rfl, wf.size, rfl, _, rfl, ?_⟩
  by_cases e : m.read = m.text.length
  · exact iteTe (eqT (by rw [e])) (q0 e)
  refine iteFe (eqF (fun z => e (by omega))) ?_
  refine ⟨_, rfl, p, _, dx, _, _, rfl, hp, k_Machine.cls, k_Machine.n_own_read, rfl, _, _, rfl, rfl, dx, _, hp, by show 7 < 1000; decide, ?_⟩
  rw [putF_read]
  obtain ⟨hm2, b2⟩ := hm.put (dx := dx) (m' := { m with read := m.read + 1 }) k_Machine.mg rfl rfl
  have hp2 : upd H p (.ins C_Machine dx (macF L W { m with read := m.read + 1 })) p = some (.ins C_Machine dx (macF L W { m with read := m.read + 1 })) := upd_same
  have hat : atI m.text.cps.toList (((m.read + 1 : Nat) : Int) - 1) = some (m.text.cps.toList.getD m.read 0) := atI_int (by omega) (by
    rw [show (((m.read + 1 : Nat) : Int) - 1).toNat = m.read by omega]
    exact wf.signAt e)
  exact ⟨_, rfl, p, _, dx, _, _, rfl, hp2, k_Machine.cls, k_Machine.n_own_text, rfl, _, rfl, p, _, dx, _, _, rfl, hp2, k_Machine.cls, k_Machine.n_own_read, rfl, _, _, rfl, rfl, _, _, _, rfl, rfl, wf.size, hat, _, rfl, rfl, q1 e _ hm2 b2⟩
theorem cal_Machine__take_sign (T : Top K mg) {C : Addr} (kC : K_Machine K mg C) : CalM P w K mg base 1 C "take_sign" (S_Machine__take_sign K mg) := by
  obtain ⟨f, fd, D⟩ := kC.m_take_sign
  exact calM_mk kC.cls D (fn_Machine__take_sign T D)
/-! ### Machine.do -/
abbrev N_Machine__do : List Str := ["self", "kind", "address", "cells"]
theorem sc_Machine__do : FnScope N_Machine__do ["self", "kind", "address"] (defScope s_Machine__do) := ⟨rfl, rfl, rfl, by decide +kernel, rfl, by decide +kernel, by decide +kernel⟩
def S_Machine__do (K : PySem.W.Frag) (mg : Str → Option Value) : Sp := sp3 fun a b c H Q _ => ∃ p L W m k j, a = .ref p ∧ b = .int k ∧ c = .int j ∧ MacAt mg p L W m H ∧ m.Wf ∧ m.written.length < sizeLine ∧ 0 ≤ j ∧ j ≤ 4095 ∧ ∀ H', MacAt mg p L W (m.act k j) H' → ButM p L W H H' → Q .non H'
theorem fn_Machine__do (T : Top K mg) {C : Addr} {f : Addr} {fd : FuncData} (D : MethAt K C "do" "Machine.do" s_Machine__do ["self", "kind", "address"] f fd) : FnG Room P w K mg base 2 f fd ["self", "kind", "address"] (S_Machine__do K mg) := by
  refine fn_of_body rl_room D.fn sc_Machine__do (fun vs H Q E h => by obtain ⟨_, _, _, rfl, _⟩ := h; rfl) (fun cdv A outer s H vs Q E hr h => ?_)
  obtain ⟨a, b, c, rfl, h⟩ := h
  have nd : N_Machine__do.Nodup := sc_Machine__do.nd
  obtain ⟨C_Machine, k_Machine⟩ := T.k_Machine
  refine ⟨_, pss_cons (ps_set (i := 3) nd rfl (by first | exact Or.inl rfl | exact Or.inr rfl) (pe_fld (pv 0) rfl))
  (pss_one (ps_if (pt_cmpR (op_eq) (pv 1) (pe_gi T.c_LOAD) (nomark _)) (pss_one (ps_fld (pv 0) (pe_ix (ix_list) (pv 3) (pv 2) (fun _ _ => rfl)) rfl)) (pss_one (ps_if (pt_cmpR (op_eq) (pv 1) (pe_gi T.c_STORE) (nomark _)) (pss_one (ps_asg (pe_fld (pv 0) rfl) (pg_sub (pv 3) (pv 2) (set_list)))) (pss_one (ps_if (pt_cmpR (op_eq) (pv 1) (pe_gi T.c_ADD) (nomark _)) (pss_one (ps_fld (pv 0) (pe_op (op_mod) (pe_op (op_add) (pe_fld (pv 0) rfl) (pe_ix (ix_list) (pv 3) (pv 2) (fun _ _ => rfl))) (pe_gi T.c_ROUND)) rfl)) (pss_one (ps_if (pt_cmpR (op_eq) (pv 1) (pe_gi T.c_LESS) (nomark _)) (pss_one (ps_fld (pv 0) (pe_op (op_mod) (pe_op (op_sub) (pe_fld (pv 0) rfl) (pe_ix (ix_list) (pv 3) (pv 2) (fun _ _ => rfl))) (pe_gi T.c_ROUND)) rfl)) (pss_one (ps_if (pt_cmpR (op_eq) (pv 1) (pe_gi T.c_TAKE) (nomark _)) (pss_one (ps_fld (pv 0) (pv 2) rfl)) (pss_one (ps_if (pt_cmpR (op_eq) (pv 1) (pe_gi T.c_FROM) (nomark _)) (pss_one (ps_fld (pv 0) (pe_ix (ix_list) (pv 3) (pe_op (op_mod) (pe_ix (ix_list) (pv 3) (pv 2) (fun _ _ => rfl)) (pe_gi T.c_MOST_CELLS)) (fun _ _ => rfl)) rfl)) (pss_one (ps_if (pt_cmpR (op_eq) (pv 1) (pe_gi T.c_INTO) (nomark _)) (pss_one (ps_asg (pe_fld (pv 0) rfl) (pg_sub (pv 3) (pe_op (op_mod) (pe_ix (ix_list) (pv 3) (pv 2) (fun _ _ => rfl)) (pe_gi T.c_MOST_CELLS)) (set_list)))) (pss_one (ps_if (pt_cmpR (op_eq) (pv 1) (pe_gi T.c_READ) (nomark _)) (pss_one (ps_fld (pv 0) (pe_m0 (cal_Machine__take_sign T k_Machine) (hr.mono (by decide)) pass (pv 0)) rfl)) (pss_one (ps_if (pt_cmpR (op_eq) (pv 1) (pe_gi T.c_WRITE) (nomark _)) (pss_one (ps_expr (pe_bm PySem.F.plainAttrs_list PySem.F.slot_list_append PySem.F.type_list_append (mt_append) (pe_fld (pv 0) rfl) (pa_cons (pe_fld (pv 0) rfl) (pa_nil))))) (pss_nil))))))))))))))))))), ?_⟩
  obtain ⟨p, L, W, m, k, j, rfl, rfl, rfl, hm, wf, hs, j0, j1, q⟩ := h
  obtain ⟨dx, hp⟩ := hm.insC k_Machine.mg
  refine ⟨_, rfl, p, _, dx, _, _, rfl, hp, k_Machine.cls, k_Machine.n_own_cells, rfl, ?_⟩
  have hcj := wf.cell j
  unfold isW at hcj
  by_cases h1 : k = 1
  · subst h1
    refine ⟨_, rfl, rfl, _, rfl, iteTe (eqT rfl) ?_⟩
    refine ⟨_, rfl, _, rfl, L, _, _, _, rfl, rfl, SqL.of hm.cells, wf.at j0 j1, _, rfl, p, _, dx, _, rfl, hp, k_Machine.cls, k_Machine.n_own_hand, (by show 7 < 1000; decide), ?_⟩
    rw [putF_hand]
    obtain ⟨hm2, b2⟩ := hm.put (dx := dx) (m' := { m with hand := m.cell j }) k_Machine.mg rfl rfl
    exact q _ hm2 b2
  refine ⟨_, rfl, rfl, _, rfl, iteFe (eqF h1) ?_⟩
  by_cases h2 : k = 2
  · subst h2
    refine ⟨_, rfl, rfl, _, rfl, iteTe (eqT rfl) ?_⟩
    refine ⟨_, rfl, p, _, dx, _, _, rfl, hp, k_Machine.cls, k_Machine.n_own_hand, rfl, _, rfl, _, rfl, L, _, _, _, rfl, rfl, hm.cells, ixN_int j0 (by rw [List.length_map, wf.len]; omega), ?_⟩
    rw [← List.map_set]
    obtain ⟨hm2, b2⟩ := hm.putL (m' := { m with cells := m.cells.set (j).toNat m.hand }) rfl rfl
    exact q _ hm2 b2
  refine ⟨_, rfl, rfl, _, rfl, iteFe (eqF h2) ?_⟩
  by_cases h3 : k = 3
  · subst h3
    refine ⟨_, rfl, rfl, _, rfl, iteTe (eqT rfl) ?_⟩
    refine ⟨_, rfl, p, _, dx, _, _, rfl, hp, k_Machine.cls, k_Machine.n_own_hand, rfl, _, rfl, _, rfl, L, _, _, _, rfl, rfl, SqL.of hm.cells, wf.at j0 j1, _, _, rfl, rfl, _, _, rfl, rfl, (show (0 : Int) < 65536 by decide), _, rfl, p, _, dx, _, rfl, hp, k_Machine.cls, k_Machine.n_own_hand, (by show 7 < 1000; decide), ?_⟩
    rw [putF_hand]
    obtain ⟨hm2, b2⟩ := hm.put (dx := dx) (m' := { m with hand := (m.hand + m.cell j) % 65536 }) k_Machine.mg rfl rfl
    exact q _ hm2 b2
  refine ⟨_, rfl, rfl, _, rfl, iteFe (eqF h3) ?_⟩
  by_cases h4 : k = 4
  · subst h4
    refine ⟨_, rfl, rfl, _, rfl, iteTe (eqT rfl) ?_⟩
    refine ⟨_, rfl, p, _, dx, _, _, rfl, hp, k_Machine.cls, k_Machine.n_own_hand, rfl, _, rfl, _, rfl, L, _, _, _, rfl, rfl, SqL.of hm.cells, wf.at j0 j1, _, _, rfl, rfl, _, _, rfl, rfl, (show (0 : Int) < 65536 by decide), _, rfl, p, _, dx, _, rfl, hp, k_Machine.cls, k_Machine.n_own_hand, (by show 7 < 1000; decide), ?_⟩
    rw [putF_hand]
    obtain ⟨hm2, b2⟩ := hm.put (dx := dx) (m' := { m with hand := (m.hand - m.cell j) % 65536 }) k_Machine.mg rfl rfl
    exact q _ hm2 b2
  refine ⟨_, rfl, rfl, _, rfl, iteFe (eqF h4) ?_⟩
  by_cases h5 : k = 5
  · subst h5
    refine ⟨_, rfl, rfl, _, rfl, iteTe (eqT rfl) ?_⟩
    refine ⟨_, rfl, _, rfl, p, _, dx, _, rfl, hp, k_Machine.cls, k_Machine.n_own_hand, (by show 7 < 1000; decide), ?_⟩
    rw [putF_hand]
    obtain ⟨hm2, b2⟩ := hm.put (dx := dx) (m' := { m with hand := j }) k_Machine.mg rfl rfl
    exact q _ hm2 b2
  refine ⟨_, rfl, rfl, _, rfl, iteFe (eqF h5) ?_⟩
  by_cases h6 : k = 6
  · subst h6
    refine ⟨_, rfl, rfl, _, rfl, iteTe (eqT rfl) ?_⟩
    refine ⟨_, rfl, _, rfl, _, rfl, L, _, _, _, rfl, rfl, SqL.of hm.cells, wf.at j0 j1, _, _, rfl, rfl, (show (0 : Int) < 4096 by decide), L, _, _, _, rfl, rfl, SqL.of hm.cells, wf.at (by omega) (by omega), _, rfl, p, _, dx, _, rfl, hp, k_Machine.cls, k_Machine.n_own_hand, (by show 7 < 1000; decide), ?_⟩
    rw [putF_hand]
    obtain ⟨hm2, b2⟩ := hm.put (dx := dx) (m' := { m with hand := m.cell (m.cell j % 4096) }) k_Machine.mg rfl rfl
    exact q _ hm2 b2
  refine ⟨_, rfl, rfl, _, rfl, iteFe (eqF h6) ?_⟩
  by_cases h7 : k = 7
  · subst h7
    refine ⟨_, rfl, rfl, _, rfl, iteTe (eqT rfl) ?_⟩
    refine ⟨_, rfl, p, _, dx, _, _, rfl, hp, k_Machine.cls, k_Machine.n_own_hand, rfl, _, rfl, _, rfl, _, rfl, L, _, _, _, rfl, rfl, SqL.of hm.cells, wf.at j0 j1, _, _, rfl, rfl, (show (0 : Int) < 4096 by decide), L, _, _, _, rfl, rfl, hm.cells, ixN_int (by omega) (by rw [List.length_map, wf.len]; omega), ?_⟩
    rw [← List.map_set]
    obtain ⟨hm2, b2⟩ := hm.putL (m' := { m with cells := m.cells.set (m.cell j % 4096).toNat m.hand }) rfl rfl
    exact q _ hm2 b2
  refine ⟨_, rfl, rfl, _, rfl, iteFe (eqF h7) ?_⟩
  by_cases h11 : k = 11
  · subst h11
    have q : ∀ H', MacAt mg p L W m.take H' → ButM p L W H H' → Q .non H' := q
    refine ⟨_, rfl, rfl, _, rfl, iteTe (eqT rfl) ?_⟩
    unfold Mac.take at q
    refine ⟨_, rfl, p, dx, _, rfl, hp, rfl, _, rfl, p, L, W, m, rfl, hm, wf, fun e => ?_, fun e H' hm1 b1 => ?_⟩
    · rw [if_pos e] at q
      refine ⟨_, rfl, p, _, dx, _, rfl, hp, k_Machine.cls, k_Machine.n_own_hand, (by show 7 < 1000; decide), ?_⟩
      rw [putF_hand]
      obtain ⟨hm2, b2⟩ := hm.put (dx := dx) (m' := { m with hand := 0 }) k_Machine.mg rfl rfl
      exact q _ hm2 b2
    · rw [if_neg e] at q
      obtain ⟨dx1, hp1⟩ := hm1.insC k_Machine.mg
      refine ⟨_, rfl, p, _, dx1, _, rfl, hp1, k_Machine.cls, k_Machine.n_own_hand, (by show 7 < 1000; decide), ?_⟩
      rw [putF_hand]
      obtain ⟨hm2, b2⟩ := hm1.put (dx := dx1) (m' := { m with hand := m.sign, read := m.read + 1 }) k_Machine.mg rfl rfl
      exact q _ hm2 (ButM.trans b1 b2)
  refine ⟨_, rfl, rfl, _, rfl, iteFe (eqF h11) ?_⟩
  by_cases h12 : k = 12
  · subst h12
    refine ⟨_, rfl, rfl, _, rfl, iteTe (eqT rfl) ?_⟩
    refine ⟨_, rfl, p, _, dx, _, _, rfl, hp, k_Machine.cls, k_Machine.n_own_written, rfl, .inl ⟨rfl, _, SqL.of hm.written⟩, _, rfl, p, _, dx, _, _, rfl, hp, k_Machine.cls, k_Machine.n_own_hand, rfl, W, _, _, rfl, rfl, hm.written, by rw [List.length_map]; exact hs, ?_⟩
    obtain ⟨hm2, b2⟩ := hm.putW (m' := { m with written := m.written ++ [m.hand] }) rfl rfl
    rw [List.map_append] at hm2 b2
    exact q _ hm2 b2
  refine ⟨_, rfl, rfl, _, rfl, iteFe (eqF h12) ?_⟩
  have e : m.act k j = m := by
    unfold Mac.act
    rw [if_neg h1, if_neg h2, if_neg h3, if_neg h4, if_neg h5, if_neg h6, if_neg h7, if_neg h11, if_neg h12]
  rw [e] at q
  exact q _ hm (ButM.refl _ _ _ _)
theorem cal_Machine__do (T : Top K mg) {C : Addr} (kC : K_Machine K mg C) : CalM P w K mg base 2 C "do" (S_Machine__do K mg) := by
  obtain ⟨f, fd, D⟩ := kC.m_do
  exact calM_mk kC.cls D (fn_Machine__do T D)
/-! ### Machine.step -/
abbrev N_Machine__step : List Str := ["self", "word", "kind", "address"]
theorem sc_Machine__step : FnScope N_Machine__step ["self"] (defScope s_Machine__step) := ⟨rfl, rfl, rfl, by decide +kernel, rfl, by decide +kernel, by decide +kernel⟩
def S_Machine__step (K : PySem.W.Frag) (mg : Str → Option Value) : Sp := sp1 fun a H Q _ => ∃ p L W m, a = .ref p ∧ MacAt mg p L W m H ∧ m.Wf ∧ m.written.length < sizeLine ∧ ∀ H', MacAt mg p L W m.step H' → ButM p L W H H' → Q .non H'
theorem fn_Machine__step (T : Top K mg) {C : Addr} {f : Addr} {fd : FuncData} (D : MethAt K C "step" "Machine.step" s_Machine__step ["self"] f fd) : FnG Room P w K mg base 3 f fd ["self"] (S_Machine__step K mg) := by
  refine fn_of_body rl_room D.fn sc_Machine__step (fun vs H Q E h => by obtain ⟨_, rfl, _⟩ := h; rfl) (fun cdv A outer s H vs Q E hr h => ?_)
  obtain ⟨a, rfl, h⟩ := h
  have nd : N_Machine__step.Nodup := sc_Machine__step.nd
  obtain ⟨C_Machine, k_Machine⟩ := T.k_Machine
  refine ⟨_, pss_cons (ps_if (pt_val (pe_fld (pv 0) rfl)) (pss_one (ps_retN)) (pss_nil))
  (pss_cons (ps_set (i := 1) nd rfl (by first | exact Or.inl rfl | exact Or.inr rfl) (pe_ix (ix_list) (pe_fld (pv 0) rfl) (pe_fld (pv 0) rfl) (fun _ _ => rfl)))
  (pss_cons (ps_par (i := 2) (j := 3) (by rfl) nd rfl rfl (by decide) rfl rfl (pa_cons (pe_op (op_fdiv) (pv 1) (pe_gi T.c_MOST_CELLS)) (pa_cons (pe_op (op_mod) (pv 1) (pe_gi T.c_MOST_CELLS)) (pa_nil))) (by rfl))
  (pss_one (ps_if (pt_cmpR (op_eq) (pv 2) (pe_gi T.c_END) (nomark _)) (pss_one (ps_fld (pv 0) (pe_bl) rfl)) (pss_one (ps_if (pt_val (pe_m (cal_Machine__leads T k_Machine) (hr.mono (by decide)) pass (pv 0) (pa_cons (pv 2) (pa_nil)))) (pss_one (ps_fld (pv 0) (pv 3) rfl)) (pss_cons (ps_fld (pv 0) (pe_op (op_mod) (pe_op (op_add) (pe_fld (pv 0) rfl) (pe_int)) (pe_gi T.c_MOST_CELLS)) rfl)
  (pss_one (ps_expr (pe_m (cal_Machine__do T k_Machine) (hr.mono (by decide)) pass (pv 0) (pa_cons (pv 2) (pa_cons (pv 3) (pa_nil))))))))))))), ?_⟩
  obtain ⟨p, L, W, m, rfl, hm, wf, hs, q⟩ := h
  obtain ⟨dx, hp⟩ := hm.insC k_Machine.mg
  refine ⟨_, rfl, p, _, dx, _, _, rfl, hp, k_Machine.cls, k_Machine.n_own_ended, rfl, _, rfl, ?_⟩
  unfold Mac.step at q
  cases he : m.ended with
  | true =>
    rw [if_pos he] at q
    exact iteT (q _ hm (ButM.refl _ _ _ _))
  | false =>
    rw [if_neg (by rw [he]; exact Bool.false_ne_true)] at q
    refine iteF ?_
    have hw := wf.cell m.place
    unfold isW at hw
    obtain ⟨p0, p1⟩ := wf.place
    refine ⟨_, rfl, p, _, dx, _, _, rfl, hp, k_Machine.cls, k_Machine.n_own_cells, rfl, _, rfl, p, _, dx, _, _, rfl, hp, k_Machine.cls, k_Machine.n_own_place, rfl, L, _, _, _, rfl, rfl, SqL.of hm.cells, wf.at p0 p1, ?_⟩
    refine ⟨_, rfl, _, _, rfl, rfl, ⟨by decide, by decide⟩, _, rfl, _, _, rfl, rfl, (show (0 : Int) < 4096 by decide), _, _, rfl, ?_⟩
    refine ⟨_, rfl, rfl, _, rfl, ?_⟩
    by_cases h0 : m.cell m.place / 4096 = 0
    · rw [if_pos h0] at q
      refine iteTe (eqT h0) ⟨_, rfl, p, _, dx, _, rfl, hp, k_Machine.cls, k_Machine.n_own_ended, (by show 7 < 1000; decide), ?_⟩
      rw [putF_ended]
      obtain ⟨hm2, b2⟩ := hm.put (dx := dx) (m' := { m with ended := true }) k_Machine.mg rfl rfl
      exact q _ hm2 b2
    rw [if_neg h0] at q
    refine iteFe (eqF h0) ⟨_, rfl, p, dx, _, rfl, hp, rfl, _, rfl, _, _, rfl, p, L, W, m, _, rfl, rfl, hm, _, rfl, ?_⟩
    cases hl : leadsM (m.cell m.place / 4096) m.hand with
    | true =>
      rw [hl, if_pos rfl] at q
      refine iteT ⟨_, rfl, _, rfl, p, _, dx, _, rfl, hp, k_Machine.cls, k_Machine.n_own_place, (by show 7 < 1000; decide), ?_⟩
      rw [putF_place]
      obtain ⟨hm2, b2⟩ := hm.put (dx := dx) (m' := { m with place := m.cell m.place % 4096 }) k_Machine.mg rfl rfl
      exact q _ hm2 b2
    | false =>
      rw [hl, if_neg Bool.false_ne_true] at q
      refine iteF ⟨_, rfl, p, _, dx, _, _, rfl, hp, k_Machine.cls, k_Machine.n_own_place, rfl, _, _, rfl, rfl, _, _, rfl, rfl, (show (0 : Int) < 4096 by decide), _, rfl, p, _, dx, _, rfl, hp, k_Machine.cls, k_Machine.n_own_place, (by show 7 < 1000; decide), ?_⟩
      rw [putF_place]
      obtain ⟨hm2, b2⟩ := hm.put (dx := dx) (m' := { m with place := (m.place + 1) % 4096 }) k_Machine.mg rfl rfl
      have hp2 : upd H p (.ins C_Machine dx (macF L W { m with place := (m.place + 1) % 4096 })) p = some (.ins C_Machine dx (macF L W { m with place := (m.place + 1) % 4096 })) := upd_same
      refine ⟨_, rfl, p, dx, _, rfl, hp2, rfl, _, rfl, _, rfl, _, _, _, rfl, p, L, W, _, _, _, rfl, rfl, rfl, hm2, wf.go ⟨by omega, by omega⟩, hs, by omega, by omega, fun H' hm3 b3 => q _ hm3 (ButM.trans b2 b3)⟩
theorem cal_Machine__step (T : Top K mg) {C : Addr} (kC : K_Machine K mg C) : CalM P w K mg base 3 C "step" (S_Machine__step K mg) := by
  obtain ⟨f, fd, D⟩ := kC.m_step
  exact calM_mk kC.cls D (fn_Machine__step T D)
theorem use_Machine__step {E E1 : List Ent} {H : Hp} {Q : VK} {X : XK} {p L W : Addr} {m : Mac} {b : Nat} (h : Has E H) (r : Rem (mac mg p L W m) E E1) (B : MacB m b) (z : b ≤ 1000000) (q : ∀ H', Has (mac mg p L W m.step :: E1) H' → Q .non H') : S_Machine__step K mg [.ref p] H Q X :=
  ⟨_, rfl, p, L, W, m, rfl, (h.rem r).head, B.wf, sl_mil (Nat.le_trans B.wl z), fun H' st k => q H' ((h.rem r).turnMac k st)⟩
local macro_rules | `(tactic| fail "g") => `(tactic| ((with_reducible apply use_Machine__step); (assumption); (fail "rem"); (fail "mb"); (fail "sd"); intro _ _))
/-! ### Machine.run -/
abbrev N_Machine__run : List Str := ["self", "most", "done"]
theorem sc_Machine__run : FnScope N_Machine__run ["self", "most"] (defScope s_Machine__run) := ⟨rfl, rfl, rfl, by decide +kernel, rfl, by decide +kernel, by decide +kernel⟩
def S_Machine__run (K : PySem.W.Frag) (mg : Str → Option Value) : Sp := sp2 fun a b H Q E => ∃ p L W m, a = .ref p ∧ MacAt mg p L W m H ∧ m.Wf ∧
  ((∃ n : Nat, b = .int (n : Int) ∧ n ≤ 200000 ∧ m.written.length + n < sizeLine ∧ ∀ H', MacAt mg p L W (Mac.run n m) H' → ButM p L W H H' → Q (.int (Mac.did n m : Nat)) H') ∨
    (btwV b 0 200000 = false ∧ (∃ t, Thing K H b t) ∧ ∀ C, mg "NoSteps" = some (.ref C) → E (.ref C) none H))
theorem fn_Machine__run (T : Top K mg) {C : Addr} {f : Addr} {fd : FuncData} (D : MethKAt K C "run" "Machine.run" s_Machine__run [] [("most", V.int 1000)] f fd) : FnG Room P w K mg base 4 f fd ["self", "most"] (S_Machine__run K mg) := by
  refine fn_of_bodyI D.fn sc_Machine__run (fun vs H Q E h => by obtain ⟨_, _, rfl, _⟩ := h; rfl) (fun cdv A outer s H vs Q E hr h => ?_)
  obtain ⟨a, b, rfl, h⟩ := h
  have nd : N_Machine__run.Nodup := sc_Machine__run.nd
  obtain ⟨C_Machine, k_Machine⟩ := T.k_Machine
  refine ⟨_, pss_cons (ps_expr (pe_c (cal_need_steps T) hr pass (pa_cons (pv 1) (pa_nil))))
  (pss_cons (ps_set (i := 2) nd rfl (by first | exact Or.inl rfl | exact Or.inr rfl) (pe_int))
  (pss_cons (ps_while (passes_of rfl) (PW.pt (pw_and (pt_cmpR (op_lt) (pv 2) (pv 1) (nomark _)) (pw_and1 (pt_not (pt_val (pe_fld (pv 0) rfl)))))) (pss_cons (ps_expr (pe_m0 (cal_Machine__step T k_Machine) (hr.mono (by decide)) pass (pv 0)))
  (pss_one (ps_aug (i := 2) nd rfl (by first | exact Or.inl rfl | exact Or.inr rfl) (pe_int) ip_add))))
  (pss_one (ps_ret (pv 2))))), ?_⟩
  obtain ⟨p, L, W, m, rfl, hm, wf, ⟨n, rfl, hn, hw, q⟩ | ⟨e, th, q⟩⟩ := h
  · refine ⟨_, rfl, _, rfl, .inl ⟨btwV_int ⟨by omega, by omega⟩, ?_⟩⟩
    refine ⟨fun r σ H' => ∃ i m', r = n - i ∧ i ≤ n ∧ σ = [some (.ref p), some (.int (n : Int)), some (.int (i : Int))] ∧ MacAt mg p L W m' H' ∧ m'.Wf ∧ m'.written.length + (n - i) < sizeLine ∧ ButM p L W H H' ∧
      Mac.run n m = Mac.run (n - i) m' ∧ Mac.did n m = Mac.did (n - i) m' + i, ⟨n, 0, m, rfl, Nat.zero_le _, rfl, hm, wf, hw, ButM.refl _ _ _ _, rfl, rfl⟩, ?_⟩
    rintro r σ H1 ⟨i, m', rfl, hi, rfl, hm', wf', hw', b', e1, e2⟩
    obtain ⟨dx, hp⟩ := hm'.insC k_Machine.mg
    refine ⟨_, rfl, _, rfl, _, _, rfl, rfl, _, rfl, ?_⟩
    by_cases hlt : i < n
    · refine iteTe (decide_eq_true (by omega)) ⟨_, rfl, p, _, dx, _, _, rfl, hp, k_Machine.cls, k_Machine.n_own_ended, rfl, _, rfl, ?_⟩
      cases he : m'.ended with
      | true =>
        obtain ⟨r1, r2⟩ := Mac.run_end (n := n - i) he
        rw [r1] at e1
        rw [r2, Nat.zero_add] at e2
        have hq := q H1 (by rw [e1]; exact hm') b'
        rw [e2] at hq
        exact iteFe (by rfl) ⟨_, rfl, hq⟩
      | false =>
        obtain ⟨r1, r2⟩ := Mac.run_on (n := n - (i + 1)) he
        rw [show n - (i + 1) + 1 = n - i by omega] at r1 r2
        refine iteTe (by rfl) ⟨fun σ H' => σ = [some (.ref p), some (.int (n : Int)), some (.int ((i : Int) + 1))] ∧ MacAt mg p L W m'.step H' ∧ ButM p L W H H', ?_, ?_⟩
        · rintro σ H' ⟨rfl, hm2, b2⟩
          refine ⟨n - (i + 1), by omega, i + 1, m'.step, rfl, by omega, rfl, hm2, wf'.step, ?_, b2, by rw [e1, r1], by rw [e2, r2]; omega⟩
          have := Mac.step_w m'
          omega
        · refine ⟨_, rfl, p, dx, _, rfl, hp, rfl, _, rfl, p, L, W, m', rfl, hm', wf', by omega, fun H2 hm2 b2 => ?_⟩
          exact ⟨_, rfl, _, _, rfl, rfl, rfl, hm2, ButM.trans b' b2⟩
    · have hni : n - i = 0 := by omega
      rw [hni] at e1 e2
      have hin : i = n := by omega
      have hq := q H1 (by rw [e1]; exact hm') b'
      rw [e2, show Mac.did 0 m' + i = i from Nat.zero_add i] at hq
      exact iteFe (decide_eq_false (by omega)) (iteFe (by rfl) ⟨_, rfl, hq⟩)
  · exact ⟨_, rfl, _, rfl, .inr ⟨e, th, q⟩⟩
def gm_Machine__run_0_most {α : Type} : List α → List α → List α → List α
  | [u0], [], [w0] => [u0, w0]
  | _, _, _ => []
theorem gm_Machine__run_0_most_rel {vs mz zs : List V} {us mv ws : List Value} (r : Vals vs us) (y : Vals mz mv) (q : Vals zs ws) : Vals (gm_Machine__run_0_most vs mz zs) (gm_Machine__run_0_most us mv ws) := by
  cases r with
  | nil => exact .nil
  | cons u0 rx =>
    cases rx with
    | cons _ _ => exact .nil
    | nil =>
      cases y with
      | cons _ _ => exact .nil
      | nil =>
        cases q with
        | nil => exact .nil
        | cons w0 qx =>
          cases qx with
          | cons _ _ => exact .nil
          | nil =>
            exact .cons u0 (.cons w0 (.nil))
theorem cal_Machine__run_0_most (T : Top K mg) {C : Addr} (kC : K_Machine K mg C) : CalMK P w K mg base 4 C "run" 0 ["most"] (fun vs zs => gm_Machine__run_0_most vs [] zs) (S_Machine__run K mg) := by
  obtain ⟨f, fd, D⟩ := kC.m_run
  exact calMK_mk (n := 0) (ks := ["most"]) kC.cls D (fn_Machine__run T D) [] (@gm_Machine__run_0_most) (fun z => nomatch z) (fun q h => absurd h List.not_mem_nil) (fun r y q => gm_Machine__run_0_most_rel r y q) (fun _ _ _ _ _ _ us mv ws l1 l2 l3 => match us, mv, ws, l1, l2, l3 with | [_], [], [_], _, _, _ => rfl)
theorem use_Machine__run {E E1 : List Ent} {H : Hp} {Q : VK} {X : XK} {p L W : Addr} {m : Mac} {k : Int} {b : Nat} (h : Has E H) (r : Rem (mac mg p L W m) E E1) (k0 : 0 ≤ k) (k1 : k ≤ 200000) (B : MacB m b) (z : b + k.toNat ≤ 1000000) (q : ∀ H', Has (mac mg p L W (Mac.run k.toNat m) :: E1) H' → Q (.int (Mac.did k.toNat m : Nat)) H') : S_Machine__run K mg [.ref p, .int k] H Q X := by
  obtain ⟨n, rfl⟩ := Int.eq_ofNat_of_zero_le k0
  have hw := B.wl
  exact ⟨_, _, rfl, p, L, W, m, rfl, (h.rem r).head, B.wf, .inl ⟨n, rfl, by omega, sl_mil (Nat.le_trans (Nat.add_le_add_right hw _) z), fun H' st b => q H' ((h.rem r).turnMac b st)⟩⟩
theorem bad_Machine__run {E : List Ent} {H : Hp} {Q : VK} {X : XK} {p L W : Addr} {m : Mac} {v : V} {b : Nat} {n : String} (h : Has E H) (r : mac mg p L W m ∈ E) (B : MacB m b) (b0 : btwV v 0 200000 = false) (th : Thing K H v n) (q : ∀ C, mg "NoSteps" = some (.ref C) → X (.ref C) none H) : S_Machine__run K mg [.ref p, v] H Q X :=
  ⟨_, _, rfl, p, L, W, m, rfl, h.get r, B.wf, .inr ⟨b0, ⟨_, th⟩, q⟩⟩
local macro_rules | `(tactic| fail "g") => `(tactic| ((with_reducible show S_Machine__run _ _ _ _ _ _); (show S_Machine__run _ _ [_, _] _ _ _); (with_reducible apply bad_Machine__run); (assumption); (fail "mem"); (fail "mb"); (fail "nb"); (fail "thing"); intro _ _))
local macro_rules | `(tactic| fail "g") => `(tactic| ((with_reducible show S_Machine__run _ _ _ _ _ _); (show S_Machine__run _ _ [_, _] _ _ _); (with_reducible apply use_Machine__run); (assumption); (fail "rem"); (fail "sd"); (fail "sd"); (fail "mb"); (fail "sd"); intro _ _))
/-! ### Machine.place -/
abbrev N_Machine__place : List Str := ["self"]
theorem sc_Machine__place : FnScope N_Machine__place ["self"] (defScope s_Machine__place) := ⟨rfl, rfl, rfl, by decide +kernel, rfl, by decide +kernel, by decide +kernel⟩
def S_Machine__place (K : PySem.W.Frag) (mg : Str → Option Value) : Sp := sp1 fun a H Q _ => ∃ p L W m, a = .ref p ∧ MacAt mg p L W m H ∧ Q (.int m.place) H
theorem fn_Machine__place (T : Top K mg) {C : Addr} {f : Addr} {fd : FuncData} (D : MethAt K C "place" "Machine.place" s_Machine__place ["self"] f fd) : FnG Room P w K mg base 1 f fd ["self"] (S_Machine__place K mg) := by
  refine fn_of_body rl_room D.fn sc_Machine__place (fun vs H Q E h => by obtain ⟨_, rfl, _⟩ := h; rfl) (fun cdv A outer s H vs Q E hr h => ?_)
  obtain ⟨a, rfl, h⟩ := h
  have nd : N_Machine__place.Nodup := sc_Machine__place.nd
  obtain ⟨C_Machine, k_Machine⟩ := T.k_Machine
  refine ⟨_, pss_one (ps_ret (pe_fld (pv 0) rfl)), ?_⟩
  obtain ⟨p, L, W, m, rfl, hm, q⟩ := h
  obtain ⟨dx, hp⟩ := hm.insC k_Machine.mg
  exact ⟨_, rfl, p, _, dx, _, _, rfl, hp, k_Machine.cls, k_Machine.n_own_place, rfl, q⟩
theorem cal_Machine__place (T : Top K mg) {C : Addr} (kC : K_Machine K mg C) : CalM P w K mg base 1 C "place" (S_Machine__place K mg) := by
  obtain ⟨f, fd, D⟩ := kC.m_place
  exact calM_mk kC.cls D (fn_Machine__place T D)
theorem use_Machine__place {E : List Ent} {H : Hp} {Q : VK} {X : XK} {p L W : Addr} {m : Mac} (h : Has E H) (r : mac mg p L W m ∈ E) (q : Q (.int m.place) H) : S_Machine__place K mg [.ref p] H Q X :=
  ⟨_, rfl, p, L, W, m, rfl, h.get r, q⟩
local macro_rules | `(tactic| fail "g") => `(tactic| ((with_reducible apply use_Machine__place); (assumption); (fail "mem")))
/-! ### Machine.hand -/
abbrev N_Machine__hand : List Str := ["self"]
theorem sc_Machine__hand : FnScope N_Machine__hand ["self"] (defScope s_Machine__hand) := ⟨rfl, rfl, rfl, by decide +kernel, rfl, by decide +kernel, by decide +kernel⟩
def S_Machine__hand (K : PySem.W.Frag) (mg : Str → Option Value) : Sp := sp1 fun a H Q _ => ∃ p L W m, a = .ref p ∧ MacAt mg p L W m H ∧ Q (.int m.hand) H
theorem fn_Machine__hand (T : Top K mg) {C : Addr} {f : Addr} {fd : FuncData} (D : MethAt K C "hand" "Machine.hand" s_Machine__hand ["self"] f fd) : FnG Room P w K mg base 1 f fd ["self"] (S_Machine__hand K mg) := by
  refine fn_of_body rl_room D.fn sc_Machine__hand (fun vs H Q E h => by obtain ⟨_, rfl, _⟩ := h; rfl) (fun cdv A outer s H vs Q E hr h => ?_)
  obtain ⟨a, rfl, h⟩ := h
  have nd : N_Machine__hand.Nodup := sc_Machine__hand.nd
  obtain ⟨C_Machine, k_Machine⟩ := T.k_Machine
  refine ⟨_, pss_one (ps_ret (pe_fld (pv 0) rfl)), ?_⟩
  obtain ⟨p, L, W, m, rfl, hm, q⟩ := h
  obtain ⟨dx, hp⟩ := hm.insC k_Machine.mg
  exact ⟨_, rfl, p, _, dx, _, _, rfl, hp, k_Machine.cls, k_Machine.n_own_hand, rfl, q⟩
theorem cal_Machine__hand (T : Top K mg) {C : Addr} (kC : K_Machine K mg C) : CalM P w K mg base 1 C "hand" (S_Machine__hand K mg) := by
  obtain ⟨f, fd, D⟩ := kC.m_hand
  exact calM_mk kC.cls D (fn_Machine__hand T D)
theorem use_Machine__hand {E : List Ent} {H : Hp} {Q : VK} {X : XK} {p L W : Addr} {m : Mac} (h : Has E H) (r : mac mg p L W m ∈ E) (q : Q (.int m.hand) H) : S_Machine__hand K mg [.ref p] H Q X :=
  ⟨_, rfl, p, L, W, m, rfl, h.get r, q⟩
local macro_rules | `(tactic| fail "g") => `(tactic| ((with_reducible apply use_Machine__hand); (assumption); (fail "mem")))
/-! ### Machine.read -/
abbrev N_Machine__read : List Str := ["self"]
theorem sc_Machine__read : FnScope N_Machine__read ["self"] (defScope s_Machine__read) := ⟨rfl, rfl, rfl, by decide +kernel, rfl, by decide +kernel, by decide +kernel⟩
def S_Machine__read (K : PySem.W.Frag) (mg : Str → Option Value) : Sp := sp1 fun a H Q _ => ∃ p L W m, a = .ref p ∧ MacAt mg p L W m H ∧ Q (.int (m.read : Int)) H
theorem fn_Machine__read (T : Top K mg) {C : Addr} {f : Addr} {fd : FuncData} (D : MethAt K C "read" "Machine.read" s_Machine__read ["self"] f fd) : FnG Room P w K mg base 1 f fd ["self"] (S_Machine__read K mg) := by
  refine fn_of_body rl_room D.fn sc_Machine__read (fun vs H Q E h => by obtain ⟨_, rfl, _⟩ := h; rfl) (fun cdv A outer s H vs Q E hr h => ?_)
  obtain ⟨a, rfl, h⟩ := h
  have nd : N_Machine__read.Nodup := sc_Machine__read.nd
  obtain ⟨C_Machine, k_Machine⟩ := T.k_Machine
  refine ⟨_, pss_one (ps_ret (pe_fld (pv 0) rfl)), ?_⟩
  obtain ⟨p, L, W, m, rfl, hm, q⟩ := h
  obtain ⟨dx, hp⟩ := hm.insC k_Machine.mg
  exact ⟨_, rfl, p, _, dx, _, _, rfl, hp, k_Machine.cls, k_Machine.n_own_read, rfl, q⟩
theorem cal_Machine__read (T : Top K mg) {C : Addr} (kC : K_Machine K mg C) : CalM P w K mg base 1 C "read" (S_Machine__read K mg) := by
  obtain ⟨f, fd, D⟩ := kC.m_read
  exact calM_mk kC.cls D (fn_Machine__read T D)
theorem use_Machine__read {E : List Ent} {H : Hp} {Q : VK} {X : XK} {p L W : Addr} {m : Mac} (h : Has E H) (r : mac mg p L W m ∈ E) (q : Q (.int (m.read : Int)) H) : S_Machine__read K mg [.ref p] H Q X :=
  ⟨_, rfl, p, L, W, m, rfl, h.get r, q⟩
local macro_rules | `(tactic| fail "g") => `(tactic| ((with_reducible apply use_Machine__read); (assumption); (fail "mem")))
/-! ### Machine.written -/
abbrev N_Machine__written : List Str := ["self"]
theorem sc_Machine__written : FnScope N_Machine__written ["self"] (defScope s_Machine__written) := ⟨rfl, rfl, rfl, by decide +kernel, rfl, by decide +kernel, by decide +kernel⟩
def S_Machine__written (K : PySem.W.Frag) (mg : Str → Option Value) : Sp := sp1 fun a H Q _ => ∃ p L W m, a = .ref p ∧ MacAt mg p L W m H ∧ ∀ H' l, H l = none → Same H H' → H' l = some (.tup (m.written.map V.int)) → Q (.ref l) H'
theorem fn_Machine__written (T : Top K mg) {C : Addr} {f : Addr} {fd : FuncData} (D : MethAt K C "written" "Machine.written" s_Machine__written ["self"] f fd) : FnG Room P w K mg base 1 f fd ["self"] (S_Machine__written K mg) := by
  refine fn_of_body rl_room D.fn sc_Machine__written (fun vs H Q E h => by obtain ⟨_, rfl, _⟩ := h; rfl) (fun cdv A outer s H vs Q E hr h => ?_)
  obtain ⟨a, rfl, h⟩ := h
  have nd : N_Machine__written.Nodup := sc_Machine__written.nd
  obtain ⟨C_Machine, k_Machine⟩ := T.k_Machine
  refine ⟨_, pss_one (ps_ret (pe_callTy (n_tuple_of) (by rfl) T.b_tuple (bt_tuple) (pa_cons (pe_fld (pv 0) rfl) (pa_nil)))), ?_⟩
  obtain ⟨p, L, W, m, rfl, hm, q⟩ := h
  obtain ⟨dx, hp⟩ := hm.insC k_Machine.mg
  exact ⟨_, rfl, p, _, dx, _, _, rfl, hp, k_Machine.cls, k_Machine.n_own_written, rfl, W, _, rfl, .inl ⟨SqL.of hm.written, fun l hl => q _ l hl (same_upd hl) upd_same⟩⟩
theorem cal_Machine__written (T : Top K mg) {C : Addr} (kC : K_Machine K mg C) : CalM P w K mg base 1 C "written" (S_Machine__written K mg) := by
  obtain ⟨f, fd, D⟩ := kC.m_written
  exact calM_mk kC.cls D (fn_Machine__written T D)
theorem use_Machine__written {E : List Ent} {H : Hp} {Q : VK} {X : XK} {p L W : Addr} {m : Mac} (h : Has E H) (r : mac mg p L W m ∈ E) (q : ∀ l H', H l = none → Has (cel l (.tup (m.written.map V.int)) :: E) H' → Q (.ref l) H') : S_Machine__written K mg [.ref p] H Q X :=
  ⟨_, rfl, p, L, W, m, rfl, h.get r, fun H' l f sm e => q l H' f (h.newCel sm f e)⟩
local macro_rules | `(tactic| fail "g") => `(tactic| ((with_reducible apply use_Machine__written); (assumption); (fail "mem"); intro _ _ _ _))
/-! ### Machine.ended -/
abbrev N_Machine__ended : List Str := ["self"]
theorem sc_Machine__ended : FnScope N_Machine__ended ["self"] (defScope s_Machine__ended) := ⟨rfl, rfl, rfl, by decide +kernel, rfl, by decide +kernel, by decide +kernel⟩
def S_Machine__ended (K : PySem.W.Frag) (mg : Str → Option Value) : Sp := sp1 fun a H Q _ => ∃ p L W m, a = .ref p ∧ MacAt mg p L W m H ∧ Q (.bl m.ended) H
theorem fn_Machine__ended (T : Top K mg) {C : Addr} {f : Addr} {fd : FuncData} (D : MethAt K C "ended" "Machine.ended" s_Machine__ended ["self"] f fd) : FnG Room P w K mg base 1 f fd ["self"] (S_Machine__ended K mg) := by
  refine fn_of_body rl_room D.fn sc_Machine__ended (fun vs H Q E h => by obtain ⟨_, rfl, _⟩ := h; rfl) (fun cdv A outer s H vs Q E hr h => ?_)
  obtain ⟨a, rfl, h⟩ := h
  have nd : N_Machine__ended.Nodup := sc_Machine__ended.nd
  obtain ⟨C_Machine, k_Machine⟩ := T.k_Machine
  refine ⟨_, pss_one (ps_ret (pe_fld (pv 0) rfl)), ?_⟩
  obtain ⟨p, L, W, m, rfl, hm, q⟩ := h
  obtain ⟨dx, hp⟩ := hm.insC k_Machine.mg
  exact ⟨_, rfl, p, _, dx, _, _, rfl, hp, k_Machine.cls, k_Machine.n_own_ended, rfl, q⟩
theorem cal_Machine__ended (T : Top K mg) {C : Addr} (kC : K_Machine K mg C) : CalM P w K mg base 1 C "ended" (S_Machine__ended K mg) := by
  obtain ⟨f, fd, D⟩ := kC.m_ended
  exact calM_mk kC.cls D (fn_Machine__ended T D)
theorem use_Machine__ended {E : List Ent} {H : Hp} {Q : VK} {X : XK} {p L W : Addr} {m : Mac} (h : Has E H) (r : mac mg p L W m ∈ E) (q : Q (.bl m.ended) H) : S_Machine__ended K mg [.ref p] H Q X :=
  ⟨_, rfl, p, L, W, m, rfl, h.get r, q⟩
local macro_rules | `(tactic| fail "g") => `(tactic| ((with_reducible apply use_Machine__ended); (assumption); (fail "mem")))
/-! ### Machine.cells -/
abbrev N_Machine__cells : List Str := ["self"]
theorem sc_Machine__cells : FnScope N_Machine__cells ["self"] (defScope s_Machine__cells) := ⟨rfl, rfl, rfl, by decide +kernel, rfl, by decide +kernel, by decide +kernel⟩
def S_Machine__cells (K : PySem.W.Frag) (mg : Str → Option Value) : Sp := sp1 fun a H Q _ => ∃ p L W m, a = .ref p ∧ MacAt mg p L W m H ∧ ∀ H' l, H l = none → Same H H' → H' l = some (.tup (m.cells.map V.int)) → Q (.ref l) H'
theorem fn_Machine__cells (T : Top K mg) {C : Addr} {f : Addr} {fd : FuncData} (D : MethAt K C "cells" "Machine.cells" s_Machine__cells ["self"] f fd) : FnG Room P w K mg base 1 f fd ["self"] (S_Machine__cells K mg) := by
  refine fn_of_body rl_room D.fn sc_Machine__cells (fun vs H Q E h => by obtain ⟨_, rfl, _⟩ := h; rfl) (fun cdv A outer s H vs Q E hr h => ?_)
  obtain ⟨a, rfl, h⟩ := h
  have nd : N_Machine__cells.Nodup := sc_Machine__cells.nd
  obtain ⟨C_Machine, k_Machine⟩ := T.k_Machine
  refine ⟨_, pss_one (ps_ret (pe_callTy (n_tuple_of) (by rfl) T.b_tuple (bt_tuple) (pa_cons (pe_fld (pv 0) rfl) (pa_nil)))), ?_⟩
  obtain ⟨p, L, W, m, rfl, hm, q⟩ := h
  obtain ⟨dx, hp⟩ := hm.insC k_Machine.mg
  exact ⟨_, rfl, p, _, dx, _, _, rfl, hp, k_Machine.cls, k_Machine.n_own_cells, rfl, L, _, rfl, .inl ⟨SqL.of hm.cells, fun l hl => q _ l hl (same_upd hl) upd_same⟩⟩
theorem cal_Machine__cells (T : Top K mg) {C : Addr} (kC : K_Machine K mg C) : CalM P w K mg base 1 C "cells" (S_Machine__cells K mg) := by
  obtain ⟨f, fd, D⟩ := kC.m_cells
  exact calM_mk kC.cls D (fn_Machine__cells T D)
theorem use_Machine__cells {E : List Ent} {H : Hp} {Q : VK} {X : XK} {p L W : Addr} {m : Mac} (h : Has E H) (r : mac mg p L W m ∈ E) (q : ∀ l H', H l = none → Has (cel l (.tup (m.cells.map V.int)) :: E) H' → Q (.ref l) H') : S_Machine__cells K mg [.ref p] H Q X :=
  ⟨_, rfl, p, L, W, m, rfl, h.get r, fun H' l f sm e => q l H' f (h.newCel sm f e)⟩
local macro_rules | `(tactic| fail "g") => `(tactic| ((with_reducible apply use_Machine__cells); (assumption); (fail "mem"); intro _ _ _ _))
/-! ### _law_stands -/
/-- what a machine tells, its cells too -/
def told6D (m : Mac) : PyData := .list [.int m.place, .int m.hand, .int (m.read : Int), .tuple (m.written.map .int), .bool m.ended, .tuple (m.cells.map .int)]
theorem told6D_fine {m : Mac} (h : m.Wf) (hl : m.written.length ≤ 100000) : fine (told6D m) = true ∧ (told6D m).depth ≤ 60 ∧ (told6D m).bulk ≤ 2 ^ 20 := by
  have e12 : (10 : Nat) ^ 12 = 1000000000000 := by decide
  have hz : sizeLine = 16777216 := by decide
  obtain ⟨p0, p1⟩ := h.place
  obtain ⟨h0, h1⟩ := h.hand
  have h2 := h.read
  have h3 := h.size
  have hw : ∀ n ∈ m.written, n.natAbs < 10 ^ 12 := fun n hn => by
    obtain ⟨a, b⟩ := h.written n hn
    omega
  have hc : ∀ n ∈ m.cells, n.natAbs < 10 ^ 12 := fun n hn => by
    obtain ⟨a, b⟩ := h.cells n hn
    omega
  have hc2 : m.cells.length = 4096 := h.len
  have h4 := bulkAll_ints m.written
  have h5 := bulkAll_ints m.cells
  refine ⟨?_, ?_, ?_⟩
  · simp only [told6D, fine, fineAll, fineAll_ints hw, fineAll_ints hc, Bool.and_eq_true, decide_eq_true_eq, and_true]
    refine ⟨by omega, by omega, by omega⟩
  · simp only [told6D, PyData.depth, PyData.depthAll, depthAll_ints]
    decide
  · simp only [told6D, PyData.bulk, PyData.bulkAll]
    have : (2 : Nat) ^ 20 = 1048576 := by decide
    omega
abbrev N__law_stands : List Str := ["_law_machine", "_law_state", "_law_told", "_law_due"]
theorem sc__law_stands : FnScope N__law_stands ["_law_machine", "_law_state"] (defScope s__law_stands) := ⟨rfl, rfl, rfl, by decide +kernel, rfl, by decide +kernel, by decide +kernel⟩
def S__law_stands (K : PySem.W.Frag) (mg : Str → Option Value) : Sp := sp2 fun a b H Q _ => ∃ F mp ML MW p L W m, a = .ref mp ∧ b = .ref p ∧ Has (mac mg mp ML MW m :: cel p (.dK (stK L W m)) :: cel L (.lst (m.cells.map V.int)) :: cel W (.lst (m.written.map V.int)) :: F) H ∧ m.Wf ∧ m.written.length ≤ 100000 ∧ ∀ H', Has (mac mg mp ML MW m :: cel p (.dK (stK L W m)) :: cel L (.lst (m.cells.map V.int)) :: cel W (.lst (m.written.map V.int)) :: F) H' → Q (.bl true) H'
theorem fn__law_stands (T : Top K mg) {f : Addr} {fd : FuncData} (D : DefAt K mg "_law_stands" s__law_stands ["_law_machine", "_law_state"] f fd) : FnG Rm P w K mg base 2 f fd ["_law_machine", "_law_state"] (S__law_stands K mg) := by
  refine fn_of_body rl_rm D.fn sc__law_stands (fun vs H Q E h => by obtain ⟨_, _, rfl, _⟩ := h; rfl) (fun cdv A outer s H vs Q E hr h => ?_)
  obtain ⟨a, b, rfl, h⟩ := h
  have nd : N__law_stands.Nodup := sc__law_stands.nd
  obtain ⟨C_Machine, k_Machine⟩ := T.k_Machine
  refine ⟨_, pss_cons (ps_set (i := 2) nd rfl (by first | exact Or.inl rfl | exact Or.inr rfl) (pe_lst (pa_cons (pe_m0 (cal_Machine__place T k_Machine) (hr.r.mono (by decide)) pass (pv 0)) (pa_cons (pe_m0 (cal_Machine__hand T k_Machine) (hr.r.mono (by decide)) pass (pv 0)) (pa_cons (pe_m0 (cal_Machine__read T k_Machine) (hr.r.mono (by decide)) pass (pv 0)) (pa_cons (pe_m0 (cal_Machine__written T k_Machine) (hr.r.mono (by decide)) pass (pv 0)) (pa_cons (pe_m0 (cal_Machine__ended T k_Machine) (hr.r.mono (by decide)) pass (pv 0)) (pa_cons (pe_m0 (cal_Machine__cells T k_Machine) (hr.r.mono (by decide)) pass (pv 0)) (pa_nil)))))))))
  (pss_cons (ps_set (i := 3) nd rfl (by first | exact Or.inl rfl | exact Or.inr rfl) (pe_lst (pa_cons (pe_dget (G.u1 hr.r.units) (pv 1) (pe_str) (fun _ _ => rfl)) (pa_cons (pe_dget (G.u1 hr.r.units) (pv 1) (pe_str) (fun _ _ => rfl)) (pa_cons (pe_dget (G.u1 hr.r.units) (pv 1) (pe_str) (fun _ _ => rfl)) (pa_cons (pe_callTy (n_tuple_of) (by rfl) T.b_tuple (bt_tuple) (pa_cons (pe_dget (G.u1 hr.r.units) (pv 1) (pe_str) (fun _ _ => rfl)) (pa_nil))) (pa_cons (pe_dget (G.u1 hr.r.units) (pv 1) (pe_str) (fun _ _ => rfl)) (pa_nil))))))))
  (pss_one (ps_ret (pe_cmpR (op_eq) (pe_callB (G.call_reprF hr) (by rfl) T.b_repr (bt_repr) (pa_cons (pv 2) (pa_nil))) (pe_callB (G.call_reprF hr) (by rfl) T.b_repr (bt_repr) (pa_cons (pe_op (op_cat) (pv 3) (pe_lst (pa_cons (pe_callTy (n_tuple_of) (by rfl) T.b_tuple (bt_tuple) (pa_cons (pe_dget (G.u1 hr.r.units) (pv 1) (pe_str) (fun _ _ => rfl)) (pa_nil))) (pa_nil)))) (pa_nil))) (nomark _))))), ?_⟩
  try dsimp only [cxOf]
  have kM := k_Machine
  obtain ⟨F, mp, ML, MW, p, L, W, m, rfl, rfl, hh, wf, wl, q⟩ := h
  have fi := told6D_fine wf wl
  fail "go"
  refine G.g_cat ‹_› (by fail "mem") (by fail "mem") (by show 5 + 1 ≤ sizeLine; decide) fun lc H3 f3 h3 => ?_
  fail "go"
  rw [decide_eq_true rfl]
  exact q _ (by fail "has")
theorem cal__law_stands (T : Top K mg) : Cal Rm P w K mg base 2 "_law_stands" [] (S__law_stands K mg) := by
  obtain ⟨f, fd, D⟩ := T.d__law_stands
  exact cal_mk D (fn__law_stands T D)
theorem use__law_stands {E E1 E2 E3 E4 : List Ent} {H : Hp} {Q : VK} {X : XK} {mp ML MW p L W : Addr} {m : Mac} (h : Has E H) (r0 : Rem (mac mg mp ML MW m) E E1) (r : Rem (cel p (.dK (stK L W m))) E1 E2) (r2 : Rem (cel L (.lst (m.cells.map V.int))) E2 E3) (r3 : Rem (cel W (.lst (m.written.map V.int))) E3 E4) (wf : m.Wf) (wl : m.written.length ≤ 100000) (q : ∀ H', Has (mac mg mp ML MW m :: cel p (.dK (stK L W m)) :: cel L (.lst (m.cells.map V.int)) :: cel W (.lst (m.written.map V.int)) :: E4) H' → Q (.bl true) H') : S__law_stands K mg [.ref mp, .ref p] H Q X :=
  ⟨_, _, rfl, E4, mp, ML, MW, p, L, W, m, rfl, rfl, h.perm (r0.perm.trans ((r.perm.trans ((r2.perm.trans (r3.perm.cons _)).cons _)).cons _)), wf, wl, q⟩
/-! ### _law_placed -/
abbrev N__law_placed : List Str := ["_law_image_here", "_law_by", "_law_word"]
theorem sc__law_placed : FnScope N__law_placed ["_law_image_here", "_law_by"] (defScope s__law_placed) := ⟨rfl, rfl, rfl, by decide +kernel, rfl, by decide +kernel, by decide +kernel⟩
def S__law_placed (K : PySem.W.Frag) (mg : Str → Option Value) : Sp := sp2 fun a b H Q _ => ∃ F t, ∃ ws : List Int, ∃ k, a = .ref t ∧ b = .int k ∧ Has (cel t (.tup (ws.map V.int)) :: F) H ∧ ws.length ≤ 100000 ∧ ∀ H' l, Has (cel l (.tup ((ws.map (ledI k)).map V.int)) :: cel t (.tup (ws.map V.int)) :: F) H' → Q (.ref l) H'
theorem fn__law_placed (T : Top K mg) {f : Addr} {fd : FuncData} (D : DefAt K mg "_law_placed" s__law_placed ["_law_image_here", "_law_by"] f fd) : FnG Room P w K mg base 2 f fd ["_law_image_here", "_law_by"] (S__law_placed K mg) := by
  refine fn_of_body rl_room D.fn sc__law_placed (fun vs H Q E h => by obtain ⟨_, _, rfl, _⟩ := h; rfl) (fun cdv A outer s H vs Q E hr h => ?_)
  obtain ⟨a, b, rfl, h⟩ := h
  have nd : N__law_placed.Nodup := sc__law_placed.nd
  refine ⟨_, pss_one (ps_ret (pe_callTy (n_tuple_of) (by rfl) T.b_tuple (bt_tuple) (pa_cons (pe_lc (own := [("_law_word", 2)]) (g := gName 2) (tt := tYes) rfl nd (pi_tup (pv 0)) (blkOk_by (own := [("_law_word", 2)]) (N := N__law_placed) (sc := defScope s__law_placed) (by decide +kernel)) (fun _ _ _ _ _ => pg_name (i := 2) nd rfl (by first | exact Or.inl rfl | exact Or.inr rfl)) (fun _ _ _ _ _ => pts_nil) (fun _ _ _ _ _ => pe_ifExp (pt_val (pe_c (cal__law_leads T) hr passL (pa_cons (pv 2) (pa_nil)))) (pe_op (op_add) (pv 2) (pv 1)) (pv 2))) (pa_nil)))), ?_⟩
  try dsimp only [cxOf]
  obtain ⟨F, t, ws, k, rfl, rfl, hh, hz, q⟩ := h
  fail "go"
  refine lcW (walk_tup (xs := ws.map V.int)) (fun i acc => acc = ((ws.take i).map (ledI k)).map V.int) hh rfl (fun H h => SqT.of (h.at (by fail "mem"))) ?_ ?_
  · rintro D i acc x H2 H3 hi hl rfl h3 hy
    obtain ⟨rfl, hx⟩ := hy
    rw [List.length_map] at hi
    have z : i < sizeLine := sl_mil (by omega)
    have hx2 : x = .int (ws[i]'hi) := by
      rw [List.getElem?_map, List.getElem?_eq_getElem hi] at hx
      exact (Option.some.inj hx).symm
    subst hx2
    fail "go"
    refine ⟨rfl, ?_⟩
    fail "go"
    refine ⟨_, rfl, _, _, rfl, h3, fun H5 h5 => ?_⟩
    have fin : ∀ y : Int, y = ledI k (ws[i]'hi) → List.map V.int ((ws.take i).map (ledI k)) ++ [V.int y] = List.map V.int ((ws.take (i + 1)).map (ledI k)) := fun y e => by
      rw [List.take_succ_eq_append_getElem hi, List.map_append, List.map_append, e]
      rfl
    cases e : leadB (ws[i]'hi) with
    | true =>
      fail "go"
      exact lcE h5 hl z (fin _ (by rw [ledI_of e]))
    | false =>
      fail "go"
      exact lcE h5 hl z (fin _ (by rw [ledI_no e]))
  · rintro D acc H2 hD hl rfl h3
    rw [List.length_map, List.take_length] at h3
    fail "go"
    exact q _ _ (by fail "has")
theorem cal__law_placed (T : Top K mg) : Cal Room P w K mg base 2 "_law_placed" [] (S__law_placed K mg) := by
  obtain ⟨f, fd, D⟩ := T.d__law_placed
  exact cal_mk D (fn__law_placed T D)
theorem use__law_placed {E E1 : List Ent} {H : Hp} {Q : VK} {X : XK} {t : Addr} {ws : List Int} {k : Int} (h : Has E H) (r : Rem (cel t (.tup (ws.map V.int))) E E1) (hz : ws.length ≤ 100000) (q : ∀ H' l, Has (cel l (.tup ((ws.map (ledI k)).map V.int)) :: cel t (.tup (ws.map V.int)) :: E1) H' → Q (.ref l) H') : S__law_placed K mg [.ref t, .int k] H Q X :=
  ⟨_, _, rfl, E1, t, ws, k, rfl, rfl, h.rem r, hz, q⟩
/-! ### _law_hand -/
abbrev N__law_hand : List Str := ["_law_state", "_law_kind", "_law_address", "_law_near", "_law_hand_here", "_law_left"]
theorem sc__law_hand : FnScope N__law_hand ["_law_state", "_law_kind", "_law_address", "_law_near"] (defScope s__law_hand) := ⟨rfl, rfl, rfl, by decide +kernel, rfl, by decide +kernel, by decide +kernel⟩
def S__law_hand (K : PySem.W.Frag) (mg : Str → Option Value) : Sp := sp4 fun a b c d H Q _ => ∃ F p L W m k e, a = .ref p ∧ b = .int k ∧ c = .int e ∧ d = .int (m.cell e) ∧ Has (cel p (.dK (stK L W m)) :: cel L (.lst (m.cells.map V.int)) :: F) H ∧ m.Wf ∧ (k = 1 ∨ k = 3 ∨ k = 4 ∨ k = 5 ∨ k = 6 ∨ k = 11) ∧ 0 ≤ e ∧ e ≤ 4095 ∧ ∀ H', Has (cel p (.dK (stK L W { m with read := (m.act k e).read })) :: cel L (.lst (m.cells.map V.int)) :: F) H' → Q (.int (m.act k e).hand) H'
theorem fn__law_hand (T : Top K mg) {f : Addr} {fd : FuncData} (D : DefAt K mg "_law_hand" s__law_hand ["_law_state", "_law_kind", "_law_address", "_law_near"] f fd) : FnG Room P w K mg base 1 f fd ["_law_state", "_law_kind", "_law_address", "_law_near"] (S__law_hand K mg) := by
  refine fn_of_body rl_room D.fn sc__law_hand (fun vs H Q E h => by obtain ⟨_, _, _, _, rfl, _⟩ := h; rfl) (fun cdv A outer s H vs Q E hr h => ?_)
  obtain ⟨a, b, c, d, rfl, h⟩ := h
  have nd : N__law_hand.Nodup := sc__law_hand.nd
  refine ⟨_, pss_cons (ps_set (i := 4) nd rfl (by first | exact Or.inl rfl | exact Or.inr rfl) (pe_dget (G.u1 hr.units) (pv 0) (pe_str) (fun _ _ => rfl)))
  (pss_cons (ps_if (pt_cmpR (op_eq) (pv 1) (pe_int) (nomark _)) (pss_cons (ps_set (i := 5) nd rfl (by first | exact Or.inl rfl | exact Or.inr rfl) (pe_slice (sl_str) (pe_dget (G.u1 hr.units) (pv 0) (pe_str) (fun _ _ => rfl)) (po_some (pe_dget (G.u1 hr.units) (pv 0) (pe_str) (fun _ _ => rfl))) (po_some (pe_op (op_add) (pe_dget (G.u1 hr.units) (pv 0) (pe_str) (fun _ _ => rfl)) (pe_int)))))
  (pss_cons (ps_dput (G.u1 hr.units) (pv 0) (pe_str) (pe_op (op_add) (pe_dget (G.u1 hr.units) (pv 0) (pe_str) (fun _ _ => rfl)) (pe_callB (n_len_str) (by rfl) T.b_len (bt_len) (pa_cons (pv 5) (pa_nil)))) (by rfl))
  (pss_one (ps_ret (pe_ifExp (pt_cmpR (op_ne) (pv 5) (pe_str) (nomark _)) (pe_callB (n_ord) (by rfl) T.b_ord (bt_ord) (pa_cons (pv 5) (pa_nil))) (pe_int)))))) (pss_nil))
  (pss_cons (ps_if (pt_cmpR (op_eq) (pv 1) (pe_int) (nomark _)) (pss_one (ps_ret (pe_ix (ix_list) (pe_dget (G.u1 hr.units) (pv 0) (pe_str) (fun _ _ => rfl)) (pe_op (op_mod) (pv 3) (pe_int)) (fun _ _ => rfl)))) (pss_nil))
  (pss_one (ps_ret (pe_dget (G.u1 hr.units) (pe_disp (pps_cons (pe_int) (pv 3) (pps_cons (pe_int) (pe_op (op_mod) (pe_op (op_add) (pv 4) (pv 3)) (pe_int)) (pps_cons (pe_int) (pe_op (op_mod) (pe_op (op_sub) (pv 4) (pv 3)) (pe_int)) (pps_cons (pe_int) (pv 2) (pps_nil))))) rfl rfl (fun z => nomatch z) (by decide)) (pv 1) (fun _ _ => rfl)))))), ?_⟩
  try dsimp only [cxOf]
  obtain ⟨F, p, L, W, m, k, e, rfl, rfl, rfl, rfl, hh, wf, hk, e0, e1, q⟩ := h
  rcases hk with rfl | rfl | rfl | rfl | rfl | rfl
  · fail "go"
    exact q _ (show Has (cel p (.dK (stK L W m)) :: cel L (.lst (m.cells.map V.int)) :: F) _ from by fail "has")
  · fail "go"
    exact q _ (show Has (cel p (.dK (stK L W m)) :: cel L (.lst (m.cells.map V.int)) :: F) _ from by fail "has")
  · fail "go"
    exact q _ (show Has (cel p (.dK (stK L W m)) :: cel L (.lst (m.cells.map V.int)) :: F) _ from by fail "has")
  · fail "go"
    exact q _ (show Has (cel p (.dK (stK L W m)) :: cel L (.lst (m.cells.map V.int)) :: F) _ from by fail "has")
  · fail "go"
    refine g_ixL hh (by fail "mem") (wf.at (by omega) (by omega)) ?_
    exact q _ (show Has (cel p (.dK (stK L W m)) :: cel L (.lst (m.cells.map V.int)) :: F) _ from by fail "has")
  · fail "go"
    refine g_slS wf.size ?_
    by_cases er : m.read = m.text.length
    · rw [next_end wf er]
      fail "go"
      refine g_dpS hh (by fail "rem") st_len fun H1 h1 => ?_
      rw [show V.int ((m.read : Int) + (Str.length "" : Nat)) = V.int (m.read : Int) from by show V.int ((m.read : Int) + ((0 : Nat) : Int)) = _; simp, pt_read] at h1
      fail "go"
      have er2 : m.act 11 e = { m with hand := 0 } := by show m.take = _; unfold Mac.take; rw [if_pos er]
      rw [er2] at q
      exact q _ h1
    · obtain ⟨n1, n2⟩ := next_on wf er
      generalize cutS m.text (some (m.read : Int)) (some ((m.read : Int) + 1)) = x at n1 n2
      have nx : x ≠ "" := fun z => by rw [z] at n1; cases n1
      fail "go"
      refine ⟨x, rfl, by rw [n1]; decide, ?_⟩
      rw [n1]
      fail "go"
      refine g_dpS hh (by fail "rem") st_len fun H1 h1 => ?_
      rw [show V.int ((m.read : Int) + ((1 : Nat) : Int)) = V.int ((m.read + 1 : Nat) : Int) from rfl, pt_read] at h1
      fail "go"
      refine g_ord n1 ?_
      have er2 : m.act 11 e = { m with hand := m.sign, read := m.read + 1 } := by show m.take = _; unfold Mac.take; rw [if_neg er]
      rw [n2]
      rw [er2] at q
      exact q _ h1
theorem cal__law_hand (T : Top K mg) : Cal Room P w K mg base 1 "_law_hand" [] (S__law_hand K mg) := by
  obtain ⟨f, fd, D⟩ := T.d__law_hand
  exact cal_mk D (fn__law_hand T D)
theorem use__law_hand {E E1 E2 : List Ent} {H : Hp} {Q : VK} {X : XK} {p L W : Addr} {m : Mac} {k e : Int} (h : Has E H) (r : Rem (cel p (.dK (stK L W m))) E E1) (r2 : Rem (cel L (.lst (m.cells.map V.int))) E1 E2) (wf : m.Wf) (hk : k = 1 ∨ k = 3 ∨ k = 4 ∨ k = 5 ∨ k = 6 ∨ k = 11) (e0 : 0 ≤ e) (e1 : e ≤ 4095)
    (q : ∀ H', Has (cel p (.dK (stK L W { m with read := (m.act k e).read })) :: cel L (.lst (m.cells.map V.int)) :: E2) H' → Q (.int (m.act k e).hand) H') : S__law_hand K mg [.ref p, .int k, .int e, .int (m.cell e)] H Q X :=
  ⟨_, _, _, _, rfl, E2, p, L, W, m, k, e, rfl, rfl, rfl, rfl, (h.rem r).perm (r2.perm.cons _), wf, hk, e0, e1, q⟩
/-! ### _law_step -/
theorem tests_get (k h : Int) : ((valV [((.inl 8 : Key), V.bl true), (.inl 9, .bl (decide (h = 0))), (.inl 10, .bl (decide (h < 32768))), (.inl 13, .bl (!decide (h = 0))), (.inl 14, .bl (decide (h ≥ 32768)))] (.inl k)).getD (.bl false)) = .bl (leadsM k h) := by
  by_cases e8 : k = 8
  · subst e8; rfl
  by_cases e9 : k = 9
  · subst e9
    show V.bl _ = V.bl _
    unfold leadsM
    simp
  by_cases e10 : k = 10
  · subst e10
    show V.bl _ = V.bl _
    unfold leadsM
    simp
  by_cases e13 : k = 13
  · subst e13
    show V.bl _ = V.bl _
    unfold leadsM
    by_cases z : h = 0 <;> simp [z]
  by_cases e14 : k = 14
  · subst e14
    show V.bl _ = V.bl _
    unfold leadsM
    by_cases z : h < 32768 <;> simp [z] <;> omega
  have e : ∀ j : Int, k ≠ j → ¬ ((.inl j : Key) = .inl k) := fun j z q => z (Sum.inl.inj q).symm
  rw [valV_neg (e 8 e8), valV_neg (e 9 e9), valV_neg (e 10 e10), valV_neg (e 13 e13), valV_neg (e 14 e14)]
  show V.bl false = V.bl _
  unfold leadsM
  simp [e8, e9, e10, e13, e14]
theorem inV_hand (k : Int) : inV (.int k) [.int 1, .int 3, .int 4, .int 5, .int 6, .int 11] = decide (k = 1 ∨ k = 3 ∨ k = 4 ∨ k = 5 ∨ k = 6 ∨ k = 11) := by
  simp only [inV, List.any_cons, List.any_nil, eqV, Bool.or_false]
  rw [Bool.eq_iff_iff]
  simp only [Bool.or_eq_true, beq_iff_eq, decide_eq_true_eq]
  omega
theorem act_hand {m : Mac} {k e : Int} (h : k = 1 ∨ k = 3 ∨ k = 4 ∨ k = 5 ∨ k = 6 ∨ k = 11) : ({ m with read := (m.act k e).read, hand := (m.act k e).hand } : Mac) = m.act k e := by
  rcases h with rfl | rfl | rfl | rfl | rfl | rfl
  · rfl
  · rfl
  · rfl
  · rfl
  · rfl
  · show ({ m with read := m.take.read, hand := m.take.hand } : Mac) = m.take
    unfold Mac.take
    split <;> rfl
theorem g_inHand {K : PySem.W.Frag} {E : List Ent} {H : Hp} {Q : VK} {t : Addr} {k : Int} (h : Has E H) (m : cel t (.tup [.int 1, .int 3, .int 4, .int 5, .int 6, .int 11]) ∈ E) (q : Q (.bl (decide (k = 1 ∨ k = 3 ∨ k = 4 ∨ k = 5 ∨ k = 6 ∨ k = 11))) H) : rIn K false (.int k) (.ref t) H Q :=
  ⟨t, _, rfl, .inr (SqT.of (h.at m)), rfl, rfl, by rw [inV_hand]; exact q⟩
abbrev N__law_step : List Str := ["_law_state", "_law_cells", "_law_hand_here", "_law_word", "_law_kind", "_law_address", "_law_near", "_law_tests"]
theorem sc__law_step : FnScope N__law_step ["_law_state"] (defScope s__law_step) := ⟨rfl, rfl, rfl, by decide +kernel, rfl, by decide +kernel, by decide +kernel⟩
def S__law_step (K : PySem.W.Frag) (mg : Str → Option Value) : Sp := sp1 fun a H Q _ => ∃ F p L W m d, a = .ref p ∧ Has (cel p (.dK (stK L W m)) :: cel L (.lst (m.cells.map V.int)) :: cel W (.lst (m.written.map V.int)) :: F) H ∧ MacB m d ∧ d ≤ 900000 ∧ m.ended = false ∧ ∀ H', Has (cel p (.dK (stK L W m.step)) :: cel L (.lst (m.step.cells.map V.int)) :: cel W (.lst (m.step.written.map V.int)) :: F) H' → Q .non H'
theorem fn__law_step (T : Top K mg) {f : Addr} {fd : FuncData} (D : DefAt K mg "_law_step" s__law_step ["_law_state"] f fd) : FnG Room P w K mg base 2 f fd ["_law_state"] (S__law_step K mg) := by
  refine fn_of_body rl_room D.fn sc__law_step (fun vs H Q E h => by obtain ⟨_, rfl, _⟩ := h; rfl) (fun cdv A outer s H vs Q E hr h => ?_)
  obtain ⟨a, rfl, h⟩ := h
  have nd : N__law_step.Nodup := sc__law_step.nd
  refine ⟨_, pss_cons (ps_par (i := 1) (j := 2) (by rfl) nd rfl rfl (by decide) rfl rfl (pa_cons (pe_dget (G.u1 hr.units) (pv 0) (pe_str) (fun _ _ => rfl)) (pa_cons (pe_dget (G.u1 hr.units) (pv 0) (pe_str) (fun _ _ => rfl)) (pa_nil))) (by rfl))
  (pss_cons (ps_set (i := 3) nd rfl (by first | exact Or.inl rfl | exact Or.inr rfl) (pe_ix (ix_list) (pv 1) (pe_dget (G.u1 hr.units) (pv 0) (pe_str) (fun _ _ => rfl)) (fun _ _ => rfl)))
  (pss_cons (ps_par (i := 4) (j := 5) (by rfl) nd rfl rfl (by decide) rfl rfl (pa_cons (pe_op (op_fdiv) (pv 3) (pe_int)) (pa_cons (pe_op (op_mod) (pv 3) (pe_int)) (pa_nil))) (by rfl))
  (pss_cons (ps_set (i := 6) nd rfl (by first | exact Or.inl rfl | exact Or.inr rfl) (pe_ix (ix_list) (pv 1) (pv 5) (fun _ _ => rfl)))
  (pss_cons (ps_if (pt_cmpR (op_eq) (pv 4) (pe_int) (nomark _)) (pss_one (ps_dput (G.u1 hr.units) (pv 0) (pe_str) (pe_bl) (by rfl))) (pss_cons (ps_set (i := 7) nd rfl (by first | exact Or.inl rfl | exact Or.inr rfl) (pe_disp (pps_cons (pe_int) (pe_bl) (pps_cons (pe_int) (pe_cmpR (op_eq) (pv 2) (pe_int) (nomark _)) (pps_cons (pe_int) (pe_cmpR (op_lt) (pv 2) (pe_int) (nomark _)) (pps_cons (pe_int) (pe_cmpR (op_ne) (pv 2) (pe_int) (nomark _)) (pps_cons (pe_int) (pe_cmpR (op_ge) (pv 2) (pe_int) (nomark _)) (pps_nil)))))) rfl rfl (fun z => nomatch z) (by decide)))
  (pss_one (ps_dput (G.u1 hr.units) (pv 0) (pe_str) (pe_ifExp (pt_val (pe_dget2 (G.u1 hr.units) (pv 7) (pv 4) (pe_bl) ⟨rfl, rfl, rfl, rfl⟩)) (pv 5) (pe_op (op_mod) (pe_op (op_add) (pe_dget (G.u1 hr.units) (pv 0) (pe_str) (fun _ _ => rfl)) (pe_int)) (pe_int))) (by rfl)))))
  (pss_cons (ps_if (pt_cmpR (op_eq) (pv 4) (pe_int) (nomark _)) (pss_one (ps_asg (pv 2) (pg_sub (pv 1) (pv 5) (set_list)))) (pss_nil))
  (pss_cons (ps_if (pt_cmpR (op_eq) (pv 4) (pe_int) (nomark _)) (pss_one (ps_asg (pv 2) (pg_sub (pv 1) (pe_op (op_mod) (pv 6) (pe_int)) (set_list)))) (pss_nil))
  (pss_cons (ps_if (pt_cmpR (op_eq) (pv 4) (pe_int) (nomark _)) (pss_one (ps_expr (pe_bm PySem.F.plainAttrs_list PySem.F.slot_list_append PySem.F.type_list_append (mt_append) (pe_dget (G.u1 hr.units) (pv 0) (pe_str) (fun _ _ => rfl)) (pa_cons (pv 2) (pa_nil))))) (pss_nil))
  (pss_one (ps_if (pt_cmpR (op_in_seq) (pv 4) (pe_tup (pa_cons (pe_int) (pa_cons (pe_int) (pa_cons (pe_int) (pa_cons (pe_int) (pa_cons (pe_int) (pa_cons (pe_int) (pa_nil)))))))) (by rfl)) (pss_one (ps_dput (G.u1 hr.units) (pv 0) (pe_str) (pe_c (cal__law_hand T) hr pass (pa_cons (pv 0) (pa_cons (pv 4) (pa_cons (pv 5) (pa_cons (pv 6) (pa_nil)))))) (by rfl))) (pss_nil)))))))))), ?_⟩
  try dsimp only [cxOf]
  obtain ⟨F, p, L, W, m, d, rfl, hh, B, hd, he, q⟩ := h
  have wf := B.wf
  have pl := wf.place
  fail "go"
  refine g_ixL hh (by fail "mem") (wf.at (by omega) (by omega)) ?_
  obtain ⟨c0, c1⟩ := wf.cell m.place
  fail "go"
  refine g_ixL hh (by fail "mem") (wf.at (by omega) (by omega)) ?_
  have k0 : 0 ≤ m.cell m.place / 4096 := by omega
  have k1 : m.cell m.place / 4096 ≤ 15 := by omega
  have e0 : 0 ≤ m.cell m.place % 4096 := by omega
  have e1 : m.cell m.place % 4096 ≤ 4095 := by omega
  have hs : m.step = if m.cell m.place / 4096 = 0 then { m with ended := true } else if leadsM (m.cell m.place / 4096) m.hand then { m with place := m.cell m.place % 4096 } else ({ m with place := (m.place + 1) % 4096 } : Mac).act (m.cell m.place / 4096) (m.cell m.place % 4096) := by
    unfold Mac.step
    rw [he]
    rfl
  rw [hs] at q
  fail "go"
  generalize m.cell m.place / 4096 = k at k0 k1 q ⊢
  generalize m.cell m.place % 4096 = e at e0 e1 q ⊢
  by_cases kz : k = 0
  · subst kz
    rw [if_pos rfl] at q
    fail "go"
    refine g_dpS hh (by fail "rem") st_len fun H1 h1 => ?_
    rw [pt_ended] at h1
    fail "go"
    rename_i pt Ht ft ht
    refine g_inHand ht (by fail "mem") ?_
    fail "go"
    exact q _ (ht.sub (by fail "sub"))
  · rw [if_neg kz] at q
    fail "go"
    rename_i pd Hd fd hd1 hd2
    refine ⟨_, DGet.k (k := .inl k) hd2.head, ?_⟩
    rw [tests_get]
    cases el : leadsM k m.hand with
    | true =>
      have kk := leads_kinds el
      rw [if_pos el] at q
      fail "go"
      refine g_dpS hd2 (by fail "rem") st_len fun H1 h1 => ?_
      rw [pt_place] at h1
      fail "go"
      rename_i pt Ht ft ht
      refine g_inHand ht (by fail "mem") ?_
      fail "go"
      exact q _ (ht.sub (by fail "sub"))
    | false =>
      rw [if_neg (by rw [el]; simp)] at q
      fail "go"
      refine g_dpS hd2 (by fail "rem") st_len fun H1 h1 => ?_
      rw [pt_place] at h1
      have w1 : ({ m with place := (m.place + 1) % 4096 } : Mac).Wf := ⟨wf.len, wf.cells, ⟨by show 0 ≤ (m.place + 1) % 4096; omega, by show (m.place + 1) % 4096 ≤ 4095; omega⟩, wf.hand, wf.read, wf.size, wf.text, wf.written⟩
      generalize em1 : ({ m with place := (m.place + 1) % 4096 } : Mac) = m1 at h1 q w1
      have ec : m1.cells = m.cells := by rw [← em1]
      have ew : m1.written = m.written := by rw [← em1]
      have eh : m1.hand = m.hand := by rw [← em1]
      have ecell : m.cell e = m1.cell e := by unfold Mac.cell; rw [ec]
      rw [← ec, ← ew] at h1
      by_cases k2 : k = 2
      · subst k2
        fail "go"
        refine G.g_setL (j := e.toNat) h1 (by fail "rem") (by rw [List.length_map, w1.len]; unfold ixN; rw [if_pos e0, if_pos (by show e < 4096; omega)]) fun H2 h2 => ?_
        rw [← List.map_set, ← eh] at h2
        fail "go"
        rename_i pt Ht ft ht
        refine g_inHand ht (by fail "mem") ?_
        fail "go"
        exact q _ (show Has (cel p (.dK (stK L W m1)) :: cel L (.lst ((m1.cells.set e.toNat m1.hand).map V.int)) :: cel W (.lst (m1.written.map V.int)) :: F) _ from ht.sub (by fail "sub"))
      by_cases k7 : k = 7
      · subst k7
        fail "go"
        rw [ecell]
        have f0 : 0 ≤ m1.cell e % 4096 := by omega
        have f1 : m1.cell e % 4096 < 4096 := by omega
        refine G.g_setL (j := (m1.cell e % 4096).toNat) h1 (by fail "rem") (by rw [List.length_map, w1.len]; unfold ixN; rw [if_pos f0, if_pos (by show m1.cell e % 4096 < 4096; exact f1)]) fun H2 h2 => ?_
        rw [← List.map_set, ← eh] at h2
        fail "go"
        rename_i pt Ht ft ht
        refine g_inHand ht (by fail "mem") ?_
        fail "go"
        exact q _ (show Has (cel p (.dK (stK L W m1)) :: cel L (.lst ((m1.cells.set (m1.cell e % 4096).toNat m1.hand).map V.int)) :: cel W (.lst (m1.written.map V.int)) :: F) _ from ht.sub (by fail "sub"))
      by_cases k12 : k = 12
      · subst k12
        fail "go"
        refine G.g_append h1 (by fail "rem") (by rw [List.length_map, ew]; exact sl_mil (by have := B.wl; omega)) fun H2 h2 => ?_
        rw [show m1.written.map V.int ++ [V.int m.hand] = (m1.written ++ [m1.hand]).map V.int by rw [List.map_append, eh]; rfl] at h2
        fail "go"
        rename_i pt Ht ft ht
        refine g_inHand ht (by fail "mem") ?_
        fail "go"
        exact q _ (show Has (cel p (.dK (stK L W m1)) :: cel L (.lst (m1.cells.map V.int)) :: cel W (.lst ((m1.written ++ [m1.hand]).map V.int)) :: F) _ from ht.sub (by fail "sub"))
      by_cases kh : k = 1 ∨ k = 3 ∨ k = 4 ∨ k = 5 ∨ k = 6 ∨ k = 11
      · fail "go"
        rename_i pt Ht ft ht
        refine g_inHand ht (by fail "mem") ?_
        rw [decide_eq_true kh]
        fail "go"
        rw [ecell]
        refine use__law_hand ht (by fail "rem") (by fail "rem") w1 kh e0 e1 fun H2 h2 => ?_
        fail "go"
        refine g_dpS h2 (by fail "rem") st_len fun H3 h3 => ?_
        rw [pt_hand] at h3
        have ea := act_hand (m := m1) (e := e) kh
        rw [show ({ ({ m1 with read := (m1.act k e).read } : Mac) with hand := (m1.act k e).hand } : Mac) = m1.act k e from ea] at h3
        have ecs : (m1.act k e).cells = m1.cells ∧ (m1.act k e).written = m1.written := by rw [← ea]; exact ⟨rfl, rfl⟩
        rw [ecs.1, ecs.2] at q
        fail "go"
        exact q _ (h3.sub (by fail "sub"))
      · fail "go"
        rename_i pt Ht ft ht
        refine g_inHand ht (by fail "mem") ?_
        rw [decide_eq_false kh]
        fail "go"
        have ea : m1.act k e = m1 := by
          unfold Mac.act
          rw [if_neg (by omega), if_neg (by omega), if_neg (by omega), if_neg (by omega), if_neg (by omega), if_neg (by omega), if_neg (by omega), if_neg (by omega), if_neg (by omega)]
        rw [ea] at q
        exact q _ (ht.sub (by fail "sub"))
theorem cal__law_step (T : Top K mg) : Cal Room P w K mg base 2 "_law_step" [] (S__law_step K mg) := by
  obtain ⟨f, fd, D⟩ := T.d__law_step
  exact cal_mk D (fn__law_step T D)
theorem use__law_step {E E1 E2 E3 : List Ent} {H : Hp} {Q : VK} {X : XK} {p L W : Addr} {m : Mac} {d : Nat} (h : Has E H) (r : Rem (cel p (.dK (stK L W m))) E E1) (r2 : Rem (cel L (.lst (m.cells.map V.int))) E1 E2) (r3 : Rem (cel W (.lst (m.written.map V.int))) E2 E3) (B : MacB m d) (hd : d ≤ 900000) (he : m.ended = false)
    (q : ∀ H', Has (cel p (.dK (stK L W m.step)) :: cel L (.lst (m.step.cells.map V.int)) :: cel W (.lst (m.step.written.map V.int)) :: E3) H' → Q .non H') : S__law_step K mg [.ref p] H Q X :=
  ⟨_, rfl, E3, p, L, W, m, d, rfl, h.perm (r.perm.trans (List.Perm.cons _ (r2.perm.trans (List.Perm.cons _ r3.perm)))), B, hd, he, q⟩
/-! ### _law_run -/
abbrev N__law_run : List Str := ["_law_state", "_law_many", "_law_done"]
theorem sc__law_run : FnScope N__law_run ["_law_state", "_law_many"] (defScope s__law_run) := ⟨rfl, rfl, rfl, by decide +kernel, rfl, by decide +kernel, by decide +kernel⟩
def S__law_run (K : PySem.W.Frag) (mg : Str → Option Value) : Sp := sp2 fun a b H Q _ => ∃ F p L W m d n, a = .ref p ∧ b = .int ((n : Nat) : Int) ∧ Has (cel p (.dK (stK L W m)) :: cel L (.lst (m.cells.map V.int)) :: cel W (.lst (m.written.map V.int)) :: F) H ∧ MacB m d ∧ d + n ≤ 900000 ∧ ∀ H', Has (cel p (.dK (stK L W (Mac.run n m))) :: cel L (.lst ((Mac.run n m).cells.map V.int)) :: cel W (.lst ((Mac.run n m).written.map V.int)) :: F) H' → Q (.int (Mac.did n m : Nat)) H'
theorem fn__law_run (T : Top K mg) {f : Addr} {fd : FuncData} (D : DefAt K mg "_law_run" s__law_run ["_law_state", "_law_many"] f fd) : FnG Room P w K mg base 3 f fd ["_law_state", "_law_many"] (S__law_run K mg) := by
  refine fn_of_body rl_room D.fn sc__law_run (fun vs H Q E h => by obtain ⟨_, _, rfl, _⟩ := h; rfl) (fun cdv A outer s H vs Q E hr h => ?_)
  obtain ⟨a, b, rfl, h⟩ := h
  have nd : N__law_run.Nodup := sc__law_run.nd
  refine ⟨_, pss_cons (ps_set (i := 2) nd rfl (by first | exact Or.inl rfl | exact Or.inr rfl) (pe_int))
  (pss_cons (ps_while (passes_of rfl) (PW.pt (pw_and (pt_cmpR (op_lt) (pv 2) (pv 1) (nomark _)) (pw_and1 (pt_not (pt_val (pe_dget (G.u1 hr.units) (pv 0) (pe_str) (fun _ _ => rfl))))))) (pss_cons (ps_expr (pe_c (cal__law_step T) hr pass (pa_cons (pv 0) (pa_nil))))
  (pss_one (ps_set (i := 2) nd rfl (by first | exact Or.inl rfl | exact Or.inr rfl) (pe_op (op_add) (pv 2) (pe_int))))))
  (pss_one (ps_ret (pv 2)))), ?_⟩
  try dsimp only [cxOf]
  obtain ⟨F, p, L, W, m, d, n, rfl, rfl, hh, B, hd, q⟩ := h
  fail "go"
  refine ⟨fun r σ H => ∃ (i : Nat) (m2 : Mac), r = n - i ∧ i ≤ n ∧ (σ = [some (.ref p), some (.int (n : Int)), some (.int (i : Int))]) ∧ Has (cel p (.dK (stK L W m2)) :: cel L (.lst (m2.cells.map V.int)) :: cel W (.lst (m2.written.map V.int)) :: F) H ∧ MacB m2 (d + i) ∧ Mac.run n m = Mac.run (n - i) m2 ∧ Mac.did n m = Mac.did (n - i) m2 + i, ⟨n, 0, m, rfl, Nat.zero_le _, rfl, hh, B, rfl, rfl⟩, ?_⟩
  rintro r σ H1 ⟨i, m2, rfl, hi, rfl, h1, B2, e1, e2⟩
  fail "go"
  refine br (fun e => ?_) (fun e => ?_)
  · have hlt : i < n := by have := of_decide_eq_true e; omega
    fail "go"
    refine br (fun e3 => ?_) (fun e3 => ?_)
    · have he : m2.ended = false := by simpa using e3
      obtain ⟨r1, r2⟩ := Mac.run_on (n := n - (i + 1)) he
      rw [show n - (i + 1) + 1 = n - i by omega] at r1 r2
      refine ⟨_, fun σ H h => h, ?_⟩
      fail "go"
      refine use__law_step h1 (by fail "rem") (by fail "rem") (by fail "rem") B2 (by omega) he fun H2 h2 => ?_
      fail "go"
      exact ⟨n - (i + 1), by omega, i + 1, m2.step, rfl, by omega, rfl, h2, B2.step, by rw [e1, r1], by rw [e2, r2]; omega⟩
    · have he : m2.ended = true := by simpa using e3
      obtain ⟨r1, r2⟩ := Mac.run_end (n := n - i) he
      rw [e1, r1, e2, r2, Nat.zero_add] at q
      fail "go"
      exact q _ h1
  · have hni : n - i = 0 := by have := of_decide_eq_false e; omega
    rw [e1, e2, hni] at q
    have hq := q H1 h1
    rw [show Mac.did 0 m2 + i = i from Nat.zero_add i] at hq
    fail "go"
    exact hq
theorem cal__law_run (T : Top K mg) : Cal Room P w K mg base 3 "_law_run" [] (S__law_run K mg) := by
  obtain ⟨f, fd, D⟩ := T.d__law_run
  exact cal_mk D (fn__law_run T D)
theorem use__law_run {E E1 E2 E3 : List Ent} {H : Hp} {Q : VK} {X : XK} {p L W : Addr} {m : Mac} {d n : Nat} (h : Has E H) (r : Rem (cel p (.dK (stK L W m))) E E1) (r2 : Rem (cel L (.lst (m.cells.map V.int))) E1 E2) (r3 : Rem (cel W (.lst (m.written.map V.int))) E2 E3) (B : MacB m d) (hd : d + n ≤ 900000)
    (q : ∀ H', Has (cel p (.dK (stK L W (Mac.run n m))) :: cel L (.lst ((Mac.run n m).cells.map V.int)) :: cel W (.lst ((Mac.run n m).written.map V.int)) :: E3) H' → Q (.int (Mac.did n m : Nat)) H') : S__law_run K mg [.ref p, .int (n : Int)] H Q X :=
  ⟨_, _, rfl, E3, p, L, W, m, d, n, rfl, rfl, h.perm (r.perm.trans (List.Perm.cons _ (r2.perm.trans (List.Perm.cons _ r3.perm)))), B, hd, q⟩
/-! ### Machine.left -/
abbrev N_Machine__left : List Str := ["self"]
theorem sc_Machine__left : FnScope N_Machine__left ["self"] (defScope s_Machine__left) := ⟨rfl, rfl, rfl, by decide +kernel, rfl, by decide +kernel, by decide +kernel⟩
def S_Machine__left (K : PySem.W.Frag) (mg : Str → Option Value) : Sp := sp1 fun a H Q _ => ∃ p L W m, a = .ref p ∧ MacAt mg p L W m H ∧ m.Wf ∧ Q (.str m.left) H
theorem fn_Machine__left (T : Top K mg) {C : Addr} {f : Addr} {fd : FuncData} (D : MethAt K C "left" "Machine.left" s_Machine__left ["self"] f fd) : FnG Room P w K mg base 1 f fd ["self"] (S_Machine__left K mg) := by
  refine fn_of_body rl_room D.fn sc_Machine__left (fun vs H Q E h => by obtain ⟨_, rfl, _⟩ := h; rfl) (fun cdv A outer s H vs Q E hr h => ?_)
  obtain ⟨a, rfl, h⟩ := h
  have nd : N_Machine__left.Nodup := sc_Machine__left.nd
  obtain ⟨C_Machine, k_Machine⟩ := T.k_Machine
  refine ⟨_, pss_one (ps_ret (pe_slice (sl_str) (pe_fld (pv 0) rfl) (po_some (pe_fld (pv 0) rfl)) (po_none))), ?_⟩
  try dsimp only [cxOf]
  obtain ⟨p, L, W, m, rfl, hm, wf, q⟩ := h
  have hh := Has.ofMac hm
  have hz := wf.size
  fail "go"
  exact q
theorem cal_Machine__left (T : Top K mg) {C : Addr} (kC : K_Machine K mg C) : CalM P w K mg base 1 C "left" (S_Machine__left K mg) := by
  obtain ⟨f, fd, D⟩ := kC.m_left
  exact calM_mk kC.cls D (fn_Machine__left T D)
theorem use_Machine__left {K : PySem.W.Frag} {mg : Str → Option Value} {E : List Ent} {p L W : Addr} {m : Mac} {H : Hp} {Q : VK} {X : XK} (h : Has E H) (r : mac mg p L W m ∈ E) (wf : m.Wf) (q : Q (.str m.left) H) : S_Machine__left K mg [.ref p] H Q X := ⟨_, rfl, p, L, W, m, rfl, h.get r, wf, q⟩
local macro_rules | `(tactic| fail "g") => `(tactic| ((with_reducible apply use_Machine__left); (assumption); (fail "mem"); (fail "wf")))
/-! ### Machine.stands_as -/
abbrev N_Machine__stands_as : List Str := ["self", "other"]
theorem sc_Machine__stands_as : FnScope N_Machine__stands_as ["self", "other"] (defScope s_Machine__stands_as) := ⟨rfl, rfl, rfl, by decide +kernel, rfl, by decide +kernel, by decide +kernel⟩
def S_Machine__stands_as (K : PySem.W.Frag) (mg : Str → Option Value) : Sp := sp2 fun a b H Q _ => ∃ F p L W m p2 L2 W2 m2, a = .ref p ∧ b = .ref p2 ∧ Has (mac mg p L W m :: mac mg p2 L2 W2 m2 :: F) H ∧ m.Wf ∧ m2.Wf ∧ ∀ H', Has (mac mg p L W m :: mac mg p2 L2 W2 m2 :: F) H' → Q (.bl (standsB m m2)) H'
theorem fn_Machine__stands_as (T : Top K mg) {C : Addr} {f : Addr} {fd : FuncData} (D : MethAt K C "stands_as" "Machine.stands_as" s_Machine__stands_as ["self", "other"] f fd) : FnG Room P w K mg base 2 f fd ["self", "other"] (S_Machine__stands_as K mg) := by
  refine fn_of_body rl_room D.fn sc_Machine__stands_as (fun vs H Q E h => by obtain ⟨_, _, rfl, _⟩ := h; rfl) (fun cdv A outer s H vs Q E hr h => ?_)
  obtain ⟨a, b, rfl, h⟩ := h
  have nd : N_Machine__stands_as.Nodup := sc_Machine__stands_as.nd
  obtain ⟨C_Machine, k_Machine⟩ := T.k_Machine
  refine ⟨_, pss_cons (ps_if (pt_cmpR (op_neD hr.units) (pe_tup (pa_cons (pe_fld (pv 0) rfl) (pa_cons (pe_fld (pv 0) rfl) (pa_cons (pe_m0 (cal_Machine__left T k_Machine) (hr.mono (by decide)) pass (pv 0)) (pa_nil))))) (pe_tup (pa_cons (pe_fld (pv 1) rfl) (pa_cons (pe_fld (pv 1) rfl) (pa_cons (pe_m0 (cal_Machine__left T k_Machine) (hr.mono (by decide)) pass (pv 1)) (pa_nil))))) (nomark _)) (pss_one (ps_ret (pe_bl))) (pss_nil))
  (pss_one (ps_ret (pe_cmpR (op_eqD hr.units) (pe_fld (pv 0) rfl) (pe_fld (pv 1) rfl) (nomark _)))), ?_⟩
  try dsimp only [cxOf]
  obtain ⟨F, p, L, W, m, p2, L2, W2, m2, rfl, rfl, hh, wf, wf2, q⟩ := h
  fail "go"
  have e : PyData.eqv (.tuple [.int m.place, .int m.hand, .str m.left]) (.tuple [.int m2.place, .int m2.hand, .str m2.left]) = (decide (m.place = m2.place) && (decide (m.hand = m2.hand) && decide (m.left = m2.left))) := by
    simp only [PyData.eqv, PyData.eqvAll, Bool.and_true, ← eqv_int, ← eqv_str]
  rw [e]
  unfold standsB at q
  cases hc : (decide (m.place = m2.place) && (decide (m.hand = m2.hand) && decide (m.left = m2.left))) with
  | false =>
    rw [hc] at q
    fail "go"
    exact q _ (Has.suf ‹_› (by fail "suf"))
  | true =>
    rw [hc] at q
    fail "go"
    rw [eqv_ints]
    exact q _ (Has.suf ‹_› (by fail "suf"))
theorem cal_Machine__stands_as (T : Top K mg) {C : Addr} (kC : K_Machine K mg C) : CalM P w K mg base 2 C "stands_as" (S_Machine__stands_as K mg) := by
  obtain ⟨f, fd, D⟩ := kC.m_stands_as
  exact calM_mk kC.cls D (fn_Machine__stands_as T D)
theorem use_Machine__stands_as {K : PySem.W.Frag} {mg : Str → Option Value} {E E1 E2 : List Ent} {p L W p2 L2 W2 : Addr} {m m2 : Mac} {H : Hp} {Q : VK} {X : XK} (h : Has E H) (r : Rem (mac mg p L W m) E E1) (r2 : Rem (mac mg p2 L2 W2 m2) E1 E2) (wf : m.Wf) (wf2 : m2.Wf) (q : ∀ H', Has (mac mg p L W m :: mac mg p2 L2 W2 m2 :: E2) H' → Q (.bl (standsB m m2)) H') : S_Machine__stands_as K mg [.ref p, .ref p2] H Q X :=
  ⟨_, _, rfl, E2, p, L, W, m, p2, L2, W2, m2, rfl, rfl, h.perm (r.perm.trans (r2.perm.cons _)), wf, wf2, q⟩
local macro_rules | `(tactic| fail "g") => `(tactic| ((with_reducible apply use_Machine__stands_as); (assumption); (fail "rem"); (fail "rem"); (fail "wf"); (fail "wf"); intro _ _))
/-! ### Machine.__eq__ -/
abbrev N_Machine____eq__ : List Str := ["self", "other"]
theorem sc_Machine____eq__ : FnScope N_Machine____eq__ ["self", "other"] (defScope s_Machine____eq__) := ⟨rfl, rfl, rfl, by decide +kernel, rfl, by decide +kernel, by decide +kernel⟩
def S_Machine____eq__ (K : PySem.W.Frag) (mg : Str → Option Value) : Sp := sp2 fun a b H Q _ => ∃ F p L W m p2 L2 W2 m2, a = .ref p ∧ b = .ref p2 ∧ Has (mac mg p L W m :: mac mg p2 L2 W2 m2 :: F) H ∧ m.Wf ∧ m2.Wf ∧ ∀ H', Has (mac mg p L W m :: mac mg p2 L2 W2 m2 :: F) H' → Q (.bl (eqB m m2)) H'
theorem fn_Machine____eq__ (T : Top K mg) {C : Addr} {f : Addr} {fd : FuncData} (D : MethAt K C "__eq__" "Machine.__eq__" s_Machine____eq__ ["self", "other"] f fd) : FnG Room P w K mg base 3 f fd ["self", "other"] (S_Machine____eq__ K mg) := by
  refine fn_of_body rl_room D.fn sc_Machine____eq__ (fun vs H Q E h => by obtain ⟨_, _, rfl, _⟩ := h; rfl) (fun cdv A outer s H vs Q E hr h => ?_)
  obtain ⟨a, b, rfl, h⟩ := h
  have nd : N_Machine____eq__.Nodup := sc_Machine____eq__.nd
  obtain ⟨C_Machine, k_Machine⟩ := T.k_Machine
  refine ⟨_, pss_cons (ps_if (PW.pt (pw_or (pt_not (pt_val (pe_callB (call_isi) (by rfl) T.b_isinstance (bt_isinstance) (pa_cons (pv 1) (pa_cons (pe_glob (v := .ref C_Machine) rfl k_Machine.mg rfl) (pa_nil)))))) (pw_or1 (pt_not (pt_val (pe_m (cal_Machine__stands_as T k_Machine) (hr.mono (by decide)) pass (pv 0) (pa_cons (pv 1) (pa_nil)))))))) (pss_one (ps_ret (pe_bl))) (pss_nil))
  (pss_one (ps_ret (pe_and (pe_cmpR (op_eqD hr.units) (pe_fld (pv 0) rfl) (pe_fld (pv 1) rfl) (nomark _)) (pe_one (pe_cmpR (op_eq) (pe_fld (pv 0) rfl) (pe_fld (pv 1) rfl) (nomark _)))))), ?_⟩
  try dsimp only [cxOf]
  obtain ⟨F, p, L, W, m, p2, L2, W2, m2, rfl, rfl, hh, wf, wf2, q⟩ := h
  fail "go"
  unfold eqB at q
  cases hc : standsB m m2 with
  | false =>
    rw [hc] at q
    fail "go"
    exact q _ (Has.suf ‹_› (by fail "suf"))
  | true =>
    rw [hc] at q
    fail "go"
    rw [eqv_ints]
    cases hw : decide (m.written = m2.written) with
    | false =>
      rw [hw] at q
      fail "go"
      exact q _ (Has.suf ‹_› (by fail "suf"))
    | true =>
      rw [hw] at q
      fail "go"
      exact q _ (Has.suf ‹_› (by fail "suf"))
theorem cal_Machine____eq__ (T : Top K mg) {C : Addr} (kC : K_Machine K mg C) : CalM P w K mg base 3 C "__eq__" (S_Machine____eq__ K mg) := by
  obtain ⟨f, fd, D⟩ := kC.m___eq__
  exact calM_mk kC.cls D (fn_Machine____eq__ T D)
theorem use_Machine____eq__ {K : PySem.W.Frag} {mg : Str → Option Value} {E E1 E2 : List Ent} {p L W p2 L2 W2 : Addr} {m m2 : Mac} {H : Hp} {Q : VK} {X : XK} (h : Has E H) (r : Rem (mac mg p L W m) E E1) (r2 : Rem (mac mg p2 L2 W2 m2) E1 E2) (wf : m.Wf) (wf2 : m2.Wf) (q : ∀ H', Has (mac mg p L W m :: mac mg p2 L2 W2 m2 :: E2) H' → Q (.bl (eqB m m2)) H') : S_Machine____eq__ K mg [.ref p, .ref p2] H Q X :=
  ⟨_, _, rfl, E2, p, L, W, m, p2, L2, W2, m2, rfl, rfl, h.perm (r.perm.trans (r2.perm.cons _)), wf, wf2, q⟩
local macro_rules | `(tactic| fail "g") => `(tactic| ((with_reducible apply use_Machine____eq__); (assumption); (fail "rem"); (fail "rem"); (fail "wf"); (fail "wf"); intro _ _))
/-! ### law -/
abbrev N_law : List Str := ["_law_script", "_law_cell", "_law_pen", "_law_image_here", "_law_given_here", "_law_last", "_law_base", "_law_machine", "_law_other", "_law_state", "_law_many"]
theorem sc_law : FnScope N_law ["_law_script"] (defScope s_law) := ⟨rfl, rfl, rfl, by decide +kernel, rfl, by decide +kernel, by decide +kernel⟩
def S_law (K : PySem.W.Frag) (mg : Str → Option Value) : Sp := S_of_law K
theorem fn_law (T : Top K mg) {f : Addr} {fd : FuncData} (D : DefAt K mg "law" s_law ["_law_script"] f fd) : FnG Rm P w K mg base 12 f fd ["_law_script"] (S_law K mg) := by
  refine fn_of_body rl_rm D.fn sc_law (fun vs H Q E h => by obtain ⟨_, rfl, _⟩ := h; rfl) (fun cdv A outer s H vs Q E hr h => ?_)
  obtain ⟨a, rfl, h⟩ := h
  have nd : N_law.Nodup := sc_law.nd
  obtain ⟨C_Machine, k_Machine⟩ := T.k_Machine
  refine ⟨_, pss_cons (ps_for (passes_of rfl) rfl (pi_list (pe_op (op_cat) (pe_lst (pa_cons (pe_c (cal__law_cell_at T) (hr.r.mono (by decide)) pass (pa_cons (pv 0) (pa_cons (pe_int) (pa_nil)))) (pa_nil))) (pe_slice (sl_list) (pv 0) (po_some (pe_int)) (po_some (pe_int))))) (pg_name (i := 1) nd rfl (by first | exact Or.inl rfl | exact Or.inr rfl)) (pss_cons (ps_set (i := 2) nd rfl (by first | exact Or.inl rfl | exact Or.inr rfl) (pe_c (cal__law_pen_of T) (hr.r.mono (by decide)) pass (pa_cons (pv 1) (pa_nil))))
  (pss_cons (ps_par (i := 3) (j := 4) (by rfl) nd rfl rfl (by decide) rfl rfl (pa_cons (pe_c (cal__law_image T) (hr.r.mono (by decide)) pass (pa_cons (pv 2) (pa_cons (pe_int) (pa_nil)))) (pa_cons (pe_c (cal__law_given T) (hr.r.mono (by decide)) pass (pa_cons (pv 2) (pa_nil))) (pa_nil))) (by rfl))
  (pss_cons (ps_set (i := 5) nd rfl (by first | exact Or.inl rfl | exact Or.inr rfl) (pe_op (op_sub) (pe_int) (pe_callB (n_len_seq) (by rfl) T.b_len (bt_len) (pa_cons (pv 3) (pa_nil)))))
  (pss_cons (ps_for (passes_of rfl) rfl (pi_list (pe_lst (pa_cons (pe_int) (pa_cons (pv 5) (pa_cons (pe_op (op_add) (pe_int) (pe_c (cal__law_draw T) (hr.r.mono (by decide)) pass (pa_cons (pv 2) (pa_cons (pe_op (op_sub) (pv 5) (pe_int)) (pa_nil))))) (pa_nil)))))) (pg_name (i := 6) nd rfl (by first | exact Or.inl rfl | exact Or.inr rfl)) (pss_cons (ps_par (i := 7) (j := 8) (by rfl) nd rfl rfl (by decide) rfl rfl (pa_cons (pe_ck (cal_loaded_k2_text T) (hr.r.mono (by decide)) pass (pa_cons (pv 3) (pa_cons (pv 6) (pa_nil))) (pk_cons (pv 4) (pk_nil))) (pa_cons (pe_ck (cal_loaded_k2_text T) (hr.r.mono (by decide)) pass (pa_cons (pv 3) (pa_cons (pv 6) (pa_nil))) (pk_cons (pv 4) (pk_nil))) (pa_nil))) (by rfl))
  (pss_cons (ps_set (i := 9) nd rfl (by first | exact Or.inl rfl | exact Or.inr rfl) (pe_c (cal__law_made T) (hr.r.mono (by decide)) pass (pa_cons (pe_op (op_catT) (pe_op (G.op_rep1) (pe_tup (pa_cons (pe_int) (pa_nil))) (pv 6)) (pe_c (cal__law_placed T) (hr.r.mono (by decide)) pass (pa_cons (pv 3) (pa_cons (pv 6) (pa_nil))))) (pa_cons (pv 6) (pa_cons (pv 4) (pa_nil))))))
  (pss_cons (ps_if (PW.pt (pw_or (pt_not (pt_val (pe_c (cal__law_stands T) (hr.mono (by decide)) pass (pa_cons (pv 7) (pa_cons (pv 9) (pa_nil)))))) (pw_or1 (pt_cmpR (op_neM (cal_Machine____eq__ T k_Machine) k_Machine.x.ne k_Machine.x.mro (hr.r.mono (by decide)) pass) (pv 7) (pv 8) (nomark _))))) (pss_one (ps_ret (pe_bl))) (pss_nil))
  (pss_cons (ps_set (i := 10) nd rfl (by first | exact Or.inl rfl | exact Or.inr rfl) (pe_c (cal__law_draw T) (hr.r.mono (by decide)) pass (pa_cons (pv 2) (pa_cons (pe_int) (pa_nil)))))
  (pss_cons (ps_if (PW.pt (pw_or (pt_cmpR (op_ne) (pe_mk0 (cal_Machine__run_0_most T k_Machine) (hr.r.mono (by decide)) pass (pv 7) (pk_cons (pv 10) (pk_nil))) (pe_c (cal__law_run T) (hr.r.mono (by decide)) pass (pa_cons (pv 9) (pa_cons (pv 10) (pa_nil)))) (nomark _)) (pw_or1 (pt_not (pt_val (pe_c (cal__law_stands T) (hr.mono (by decide)) pass (pa_cons (pv 7) (pa_cons (pv 9) (pa_nil))))))))) (pss_one (ps_ret (pe_bl))) (pss_nil))
  (pss_one (ps_if (pt_not (pt_val (pe_c (cal__law_stands T) (hr.mono (by decide)) pass (pa_cons (pv 8) (pa_cons (pe_c (cal__law_made T) (hr.r.mono (by decide)) pass (pa_cons (pe_op (op_catT) (pe_op (G.op_rep1) (pe_tup (pa_cons (pe_int) (pa_nil))) (pv 6)) (pe_c (cal__law_placed T) (hr.r.mono (by decide)) pass (pa_cons (pv 3) (pa_cons (pv 6) (pa_nil))))) (pa_cons (pv 6) (pa_cons (pv 4) (pa_nil))))) (pa_nil)))))) (pss_one (ps_ret (pe_bl))) (pss_nil)))))))))
  (pss_one (ps_if (PW.pt (pw_or (pt_cmpR (op_neM (cal_Machine____eq__ T k_Machine) k_Machine.x.ne k_Machine.x.mro (hr.r.mono (by decide)) pass) (pe_ck (cal_loaded_k1 T) (hr.r.mono (by decide)) pass (pa_cons (pv 3) (pa_nil)) (pk_nil)) (pe_ck (cal_loaded_k2_text T) (hr.r.mono (by decide)) pass (pa_cons (pv 3) (pa_cons (pe_int) (pa_nil))) (pk_cons (pe_str) (pk_nil))) (nomark _)) (pw_or1 (pt_cmpR (op_neM (cal_Machine____eq__ T k_Machine) k_Machine.x.ne k_Machine.x.mro (hr.r.mono (by decide)) pass) (pe_ck (cal_loaded_k1_text T) (hr.r.mono (by decide)) pass (pa_cons (pv 3) (pa_nil)) (pk_cons (pv 4) (pk_nil))) (pe_ck (cal_loaded_k2_text T) (hr.r.mono (by decide)) pass (pa_cons (pv 3) (pa_cons (pe_int) (pa_nil))) (pk_cons (pv 4) (pk_nil))) (nomark _))))) (pss_one (ps_ret (pe_bl))) (pss_nil))))))))
  (pss_one (ps_ret (pe_bl))), ?_⟩
  try dsimp only [cxOf]
  obtain ⟨ns, s, rfl, hs, hl, _, q⟩ := h
  obtain ⟨ts, hh⟩ := has_sq hs
  have hl2 : (ns.map V.int).length ≤ 63 := by rw [List.length_map]; exact hl
  fail "go"
  rename_i z0 l0 H1 f1 h1 l1 H2 f2 h2
  have cl := cutV_length (ns.map V.int) (some 1) (some 4)
  refine G.g_cat h2 (by fail "mem") (by fail "mem") (Nat.le_of_lt (sl_mil (by show 1 + _ ≤ _; omega))) fun lc H3 f3 h3 => ?_
  have hx : ∀ v ∈ [V.int z0] ++ cutV (ns.map V.int) (some 1) (some 4), ∃ i : Int, v = .int i := fun v hv => by
    rcases List.mem_append.mp hv with hv | hv
    · exact ⟨_, List.mem_singleton.mp hv⟩
    · obtain ⟨i, _, e⟩ := List.mem_map.mp (List.mem_of_mem_drop (List.mem_of_mem_take hv))
      exact ⟨i, e.symm⟩
  generalize [V.int z0] ++ cutV (ns.map V.int) (some 1) (some 4) = xs at hx h3
  replace h3 : Has [cel lc (.lst xs), sqE K s (List.map V.int ns) ts] H3 := h3.sub (by fail "sub")
  fail "go"
  refine forL (xs := xs) (fun i σ H => (∃ y1 y2 y3 y4 y5 y6 y7 y8 y9 y10, σ = [some (.ref s), y1, y2, y3, y4, y5, y6, y7, y8, y9, y10]) ∧ Has [cel lc (.lst xs), sqE K s (List.map V.int ns) ts] H) ⟨⟨_, _, _, _, _, _, _, _, _, _, rfl⟩, by fail "has"⟩ ?_ ?_ ?_
  · rintro i σ H4 hi ⟨⟨_, _, _, _, _, _, _, _, _, _, rfl⟩, h4⟩
    exact SqL.of (h4.at (by fail "mem"))
  · rintro i v σ H4 hv ⟨⟨_, _, _, _, _, _, _, _, _, _, rfl⟩, h4⟩
    obtain ⟨ci, rfl⟩ := hx v (List.mem_of_getElem? hv)
    fail "go"
    rename_i pt H5 h5 H6 li ws h6 im wl H8 x h8 x1 x2
    have w1 := imgB_len2 im
    have ew : (ws.map V.int).length = ws.length := List.length_map ..
    rw [ew]
    fail "go"
    rename_i r1 r10 r11 l3 H10 f10 h10
    have hsp : ∀ v ∈ [V.int 127, V.int (4096 - (ws.length : Nat)), V.int (127 + r1)], ∃ sp : Int, v = .int sp ∧ 127 ≤ sp ∧ sp ≤ 4096 - (ws.length : Nat) :=
      allV ⟨_, rfl, by omega, by omega⟩ (allV ⟨_, rfl, by omega, by omega⟩ (allV ⟨_, rfl, by omega, by omega⟩ allV0))
    generalize [V.int 127, V.int (4096 - (ws.length : Nat)), V.int (127 + r1)] = sps at hsp h10
    refine forL (xs := sps) (fun i σ H => (∃ y1 y5 y6 y7 y8 y9 y10, σ = [some (.ref s), y1, some (.ref pt), some (.ref li), some (.str x), y5, y6, y7, y8, y9, y10]) ∧ Has [cel l3 (.lst sps), pen pt, cel li (.tup (ws.map V.int)), cel lc (.lst xs), sqE K s (List.map V.int ns) ts] H) ⟨⟨_, _, _, _, _, _, _, rfl⟩, by fail "has"⟩ ?_ ?_ ?_
    · rintro i σ H4 hi ⟨⟨_, _, _, _, _, _, _, rfl⟩, h4⟩
      exact SqL.of (h4.at (by fail "mem"))
    · rintro i v σ H18 hv ⟨⟨_, _, _, _, _, _, _, rfl⟩, h18⟩
      obtain ⟨sp, rfl, s0, s1⟩ := hsp v (List.mem_of_getElem? hv)
      have B2 := macI_wfB (k := sp) (x := x) im (by omega) (by omega) (by omega) x1 x2
      fail "go"
      refine use_loaded ‹_› (by fail "rem") im s0 (by omega) (by omega) fun H19 q1 L1 W1 h19 => ?_
      fail "go"
      refine use_loaded ‹_› (by fail "rem") im s0 (by omega) (by omega) fun H20 q2 L2 W2 h20 => ?_
      fail "go"
      refine use__law_placed ‹_› (by fail "rem") (by omega) fun H3 l3 h3 => ?_
      refine G.g_catT h3 (by fail "mem") (by fail "mem") (fun e => ?_) (fun e => ?_) ?_ fun l4 H4 f4 h4 => ?_
      · have := congrArg List.length e
        rw [List.length_replicate] at this
        have : sp.toNat = 0 := this
        omega
      · have := congrArg List.length e
        rw [List.length_map, List.length_map] at this
        have : ws.length = 0 := this
        omega
      · rw [List.length_replicate, List.length_map, List.length_map]
        exact Nat.le_of_lt (sl_mil (by omega))
      rw [ints_zeros] at h4
      fail "go"
      refine use__law_made ‹_› (by fail "rem") (by rw [List.length_append, List.length_replicate, List.length_map]; omega) fun H5 p L W h5 => ?_
      rw [show mac0 (List.replicate sp.toNat 0 ++ ws.map (ledI sp)) sp x = macI ws sp x from rfl] at h5
      replace h5 : Has (cel p (.dK (stK L W (macI ws sp x))) :: cel L (.lst ((macI ws sp x).cells.map V.int)) :: cel W (.lst ((macI ws sp x).written.map V.int)) :: _) H5 := h5
      have Br := fun n => MacB.run (n := n) B2
      fail "go"
      refine use__law_stands h5 (by fail "rem") (by fail "rem") (by fail "rem") (by fail "rem") B2.wf (by have := B2.wl; omega) fun H6 h6 => ?_
      fail "go"
      rename_i H7 h7 H8 h8 r r0 r1 H9 h9
      obtain ⟨n, rfl⟩ := Int.eq_ofNat_of_zero_le r0
      rw [Int.toNat_natCast] at h9 ⊢
      refine use__law_run h9 (by fail "rem") (by fail "rem") (by fail "rem") B2 (by omega) fun Ha ha => ?_
      fail "go"
      refine use__law_stands ha (by fail "rem") (by fail "rem") (by fail "rem") (by fail "rem") (Br n).wf (by have := (Br n).wl; omega) fun Hb hb => ?_
      clear h9 h8 h7 h6 h5 h4 h3 h20 h19 h18
      fail "go"
      refine use__law_placed ‹_› (by fail "rem") (by omega) fun Hx l3 hx3 => ?_
      refine G.g_catT hx3 (by fail "mem") (by fail "mem") (fun e => ?_) (fun e => ?_) ?_ fun l4 Hy fy hy => ?_
      · have := congrArg List.length e
        rw [List.length_replicate] at this
        have : sp.toNat = 0 := this
        omega
      · have := congrArg List.length e
        rw [List.length_map, List.length_map] at this
        have : ws.length = 0 := this
        omega
      · rw [List.length_replicate, List.length_map, List.length_map]
        exact Nat.le_of_lt (sl_mil (by omega))
      rw [ints_zeros] at hy
      fail "go"
      refine use__law_made ‹_› (by fail "rem") (by rw [List.length_append, List.length_replicate, List.length_map]; omega) fun Hz pz Lz Wz hz => ?_
      rw [show mac0 (List.replicate sp.toNat 0 ++ ws.map (ledI sp)) sp x = macI ws sp x from rfl] at hz
      replace hz : Has (cel pz (.dK (stK Lz Wz (macI ws sp x))) :: cel Lz (.lst ((macI ws sp x).cells.map V.int)) :: cel Wz (.lst ((macI ws sp x).written.map V.int)) :: _) Hz := hz
      fail "go"
      refine use__law_stands hz (by fail "rem") (by fail "rem") (by fail "rem") (by fail "rem") B2.wf (by have := B2.wl; omega) fun Hw hw => ?_
      fail "go"
      exact ⟨⟨_, _, _, _, _, _, _, rfl⟩, by fail "has"⟩
    · rintro σ H18 ⟨⟨_, _, _, _, _, _, _, rfl⟩, h18⟩
      fail "go"
      refine use_loaded ‹_› (by fail "rem") im (by omega) (by omega) (by omega) fun H19 q1 L1 W1 h19 => ?_
      fail "go"
      refine use_loaded ‹_› (by fail "rem") im (by omega) (by omega) (by omega) fun H20 q2 L2 W2 h20 => ?_
      have B3 := macI_wfB (k := 128) (x := "") im (by omega) (by omega) (by omega) (by decide) (by decide +kernel)
      have B4 := macI_wfB (k := 128) (x := x) im (by omega) (by omega) (by omega) x1 x2
      fail "go"
      refine use_loaded ‹_› (by fail "rem") im (by omega) (by omega) (by omega) fun H21 q3 L3 W3 h21 => ?_
      fail "go"
      refine use_loaded ‹_› (by fail "rem") im (by omega) (by omega) (by omega) fun H22 q4 L4 W4 h22 => ?_
      fail "go"
      exact ⟨⟨_, _, _, _, _, _, _, _, _, _, rfl⟩, by fail "has"⟩
  · rintro σ H4 ⟨⟨_, _, _, _, _, _, _, _, _, _, rfl⟩, h4⟩
    fail "go"
    exact q _
end
theorem walk {l : PySem.W.OpenLaw} {q : Program} {loose : List Str} {XP : (Str → Option Value) → Heap → Prop} {YP : World → Heap → Prop} {d : DefRec} {K : Params → PySem.W.Frag} (hn : l.most = some 63) (hdf : d.params.defaults = [])
    (hY : ∀ (w : World) (h : Heap), YP w h → (K w.params).In h) (hd : d.name = "law")
    (F : ∀ (w : World) (mg : Str → Option Value) (h : Heap), (K w.params).In h → h.Ns mainGlobals mg → Top (K w.params) mg) :
    PySem.W.WalkO q loose XP YP l.row.toRowW d [] (fun f vs => PySem.call f vs) :=
  law_walk (x := "_law_script") (k := 12) hn hdf ⟨⟨rfl, by decide, by decide⟩, rfl⟩ hY fun w mg fa h KX g hm => by
    have T := F w mg h KX g
    obtain ⟨f, fd, D⟩ := T.d_law
    rw [hd, D.mg] at hm
    cases hm
    refine ⟨fd, fun s u => ?_, fun base _ _ => fn_law T D⟩
    obtain ⟨oc, od, kV, doc, pm, an, cdv, ct, osl, rfl, _⟩ := D.fn.ex
    exact .of_eq rfl
end G
open PySem PySem.W PyProof.Rows in
set_option maxRecDepth 100000 in
set_option maxHeartbeats 0 in
theorem PySem.Challenge.cw_seedmill_k27_images_loaded_holds : PySem.Challenge.rw_seedmill_k27_images_loaded.Holds := by
  w_on; o_law; k_head; (case hw => w_witness2)
  k_fill
  refine G.walk (l := PySem.Challenge.rw_seedmill_k27_images_loaded) rfl rfl (fun w h Y => PySem.W.kIn_of Y) rfl ?F
  case F =>
    intro w mg h KX g
    refine' ⟨G.defAt_mk KX g ?a__law_pen_of ?l__law_pen_of ?c__law_pen_of ?k__law_pen_of (fun _ _ _ _ _ _ us hl => match us, hl with | [_], _ => rfl),
      G.defAt_mk KX g ?a__law_cell_at ?l__law_cell_at ?c__law_cell_at ?k__law_cell_at (fun _ _ _ _ _ _ us hl => match us, hl with | [_, _], _ => rfl),
      G.defAt_mk KX g ?a__law_next ?l__law_next ?c__law_next ?k__law_next (fun _ _ _ _ _ _ us hl => match us, hl with | [_], _ => rfl),
      G.defAt_mk KX g ?a__law_draw ?l__law_draw ?c__law_draw ?k__law_draw (fun _ _ _ _ _ _ us hl => match us, hl with | [_, _], _ => rfl),
      G.defAt_mk KX g ?a__law_leads ?l__law_leads ?c__law_leads ?k__law_leads (fun _ _ _ _ _ _ us hl => match us, hl with | [_], _ => rfl),
      G.defAt_mk KX g ?a__law_odd_address ?l__law_odd_address ?c__law_odd_address ?k__law_odd_address (fun _ _ _ _ _ _ us hl => match us, hl with | [_, _], _ => rfl),
      G.defAt_mk KX g ?a__law_image ?l__law_image ?c__law_image ?k__law_image (fun _ _ _ _ _ _ us hl => match us, hl with | [_, _], _ => rfl),
      G.defAt_mk KX g ?a__law_given ?l__law_given ?c__law_given ?k__law_given (fun _ _ _ _ _ _ us hl => match us, hl with | [_], _ => rfl),
      G.defAt_mk KX g ?a__law_made ?l__law_made ?c__law_made ?k__law_made (fun _ _ _ _ _ _ us hl => match us, hl with | [_, _, _], _ => rfl),
      G.defAt_mk KX g ?a_is_whole ?l_is_whole ?c_is_whole ?k_is_whole (fun _ _ _ _ _ _ us hl => match us, hl with | [_], _ => rfl),
      G.defAt_mk KX g ?a_is_between ?l_is_between ?c_is_between ?k_is_between (fun _ _ _ _ _ _ us hl => match us, hl with | [_, _, _], _ => rfl),
      G.defAt_mk KX g ?a_is_word ?l_is_word ?c_is_word ?k_is_word (fun _ _ _ _ _ _ us hl => match us, hl with | [_], _ => rfl),
      G.defAt_mk KX g ?a_need_cells ?l_need_cells ?c_need_cells ?k_need_cells (fun _ _ _ _ _ _ us hl => match us, hl with | [_], _ => rfl),
      G.defAt_mk KX g ?a_is_address ?l_is_address ?c_is_address ?k_is_address (fun _ _ _ _ _ _ us hl => match us, hl with | [_], _ => rfl),
      G.defAt_mk KX g ?a_need_address ?l_need_address ?c_need_address ?k_need_address (fun _ _ _ _ _ _ us hl => match us, hl with | [_], _ => rfl),
      G.defAt_mk KX g ?a_need_input ?l_need_input ?c_need_input ?k_need_input (fun _ _ _ _ _ _ us hl => match us, hl with | [_], _ => rfl),
      G.defAt_mk KX g ?a_kind_by ?l_kind_by ?c_kind_by ?k_kind_by (fun _ _ _ _ _ _ us hl => match us, hl with | [_], _ => rfl),
      G.defAt_mk KX g ?a_is_leading ?l_is_leading ?c_is_leading ?k_is_leading (fun _ _ _ _ _ _ us hl => match us, hl with | [_], _ => rfl),
      G.defAt_mk KX g ?a_address_by ?l_address_by ?c_address_by ?k_address_by (fun _ _ _ _ _ _ us hl => match us, hl with | [_], _ => rfl),
      G.defAt_mk KX g ?a_leads_within ?l_leads_within ?c_leads_within ?k_leads_within (fun _ _ _ _ _ _ us hl => match us, hl with | [_, _], _ => rfl),
      G.defAt_mk KX g ?a_is_image ?l_is_image ?c_is_image ?k_is_image (fun _ _ _ _ _ _ us hl => match us, hl with | [_], _ => rfl),
      G.defAt_mk KX g ?a_need_image ?l_need_image ?c_need_image ?k_need_image (fun _ _ _ _ _ _ us hl => match us, hl with | [_], _ => rfl),
      G.defAt_mk KX g ?a_need_base ?l_need_base ?c_need_base ?k_need_base (fun _ _ _ _ _ _ us hl => match us, hl with | [_, _], _ => rfl),
      G.defAt_mk KX g ?a_led_on ?l_led_on ?c_led_on ?k_led_on (fun _ _ _ _ _ _ us hl => match us, hl with | [_, _], _ => rfl),
      G.defAt_mk KX g ?a_placed ?l_placed ?c_placed ?k_placed (fun _ _ _ _ _ _ us hl => match us, hl with | [_, _], _ => rfl),
      G.defKAt_mk KX g ?a_loaded ?l_loaded ?c_loaded ?k_loaded (G.dfl_some ?t_loaded ?v_loaded) (G.kws_cons (G.kw_str ?w_loaded_text) (G.kws_nil)),
      G.defAt_mk KX g ?a_need_steps ?l_need_steps ?c_need_steps ?k_need_steps (fun _ _ _ _ _ _ us hl => match us, hl with | [_], _ => rfl),
      G.defAt_mk KX g ?a__law_stands ?l__law_stands ?c__law_stands ?k__law_stands (fun _ _ _ _ _ _ us hl => match us, hl with | [_, _], _ => rfl),
      G.defAt_mk KX g ?a__law_placed ?l__law_placed ?c__law_placed ?k__law_placed (fun _ _ _ _ _ _ us hl => match us, hl with | [_, _], _ => rfl),
      G.defAt_mk KX g ?a__law_hand ?l__law_hand ?c__law_hand ?k__law_hand (fun _ _ _ _ _ _ us hl => match us, hl with | [_, _, _, _], _ => rfl),
      G.defAt_mk KX g ?a__law_step ?l__law_step ?c__law_step ?k__law_step (fun _ _ _ _ _ _ us hl => match us, hl with | [_], _ => rfl),
      G.defAt_mk KX g ?a__law_run ?l__law_run ?c__law_run ?k__law_run (fun _ _ _ _ _ _ us hl => match us, hl with | [_, _], _ => rfl),
      G.defAt_mk KX g ?a_law ?l_law ?c_law ?k_law (fun _ _ _ _ _ _ us hl => match us, hl with | [_], _ => rfl),
      PySem.W.mg_none_of KX g ?b_all,
      PySem.W.mg_none_of KX g ?b_bool,
      PySem.W.mg_none_of KX g ?b_int,
      PySem.W.mg_none_of KX g ?b_isinstance,
      PySem.W.mg_none_of KX g ?b_len,
      PySem.W.mg_none_of KX g ?b_list,
      PySem.W.mg_none_of KX g ?b_max,
      PySem.W.mg_none_of KX g ?b_ord,
      PySem.W.mg_none_of KX g ?b_range,
      PySem.W.mg_none_of KX g ?b_repr,
      PySem.W.mg_none_of KX g ?b_str,
      PySem.W.mg_none_of KX g ?b_tuple,
      G.intAt_mk KX g ?c_ADD,
      G.intAt_mk KX g ?c_END,
      G.intAt_mk KX g ?c_FROM,
      G.intAt_mk KX g ?c_GO,
      G.intAt_mk KX g ?c_GREAT,
      G.intAt_mk KX g ?c_HALF,
      G.intAt_mk KX g ?c_INTO,
      ⟨_, PySem.W.mg_of KX g ?c_LEADING, G.sqTK_mk ?l_LEADING ?v_LEADING⟩,
      G.intAt_mk KX g ?c_LEAST_BASE,
      G.intAt_mk KX g ?c_LESS,
      G.intAt_mk KX g ?c_LOAD,
      G.intAt_mk KX g ?c_MOST_CELLS,
      G.intAt_mk KX g ?c_MOST_LENGTH,
      G.intAt_mk KX g ?c_MOST_STEPS,
      G.intAt_mk KX g ?c_MOST_WORD,
      G.intAt_mk KX g ?c_OTHER,
      G.intAt_mk KX g ?c_READ,
      G.intAt_mk KX g ?c_ROUND,
      G.intAt_mk KX g ?c_SMALL,
      G.intAt_mk KX g ?c_SPAN,
      G.intAt_mk KX g ?c_STORE,
      G.intAt_mk KX g ?c_TAKE,
      G.intAt_mk KX g ?c_WRITE,
      G.intAt_mk KX g ?c_ZERO,
      G.excAt_mk KX g ?a_NoAddress ?x_NoAddress ?kp_NoAddress ?b_NoAddress ?t_NoAddress ?i_NoAddress ?s_NoAddress,
      G.excAt_mk KX g ?a_NoBase ?x_NoBase ?kp_NoBase ?b_NoBase ?t_NoBase ?i_NoBase ?s_NoBase,
      G.excAt_mk KX g ?a_NoCells ?x_NoCells ?kp_NoCells ?b_NoCells ?t_NoCells ?i_NoCells ?s_NoCells,
      G.excAt_mk KX g ?a_NoImage ?x_NoImage ?kp_NoImage ?b_NoImage ?t_NoImage ?i_NoImage ?s_NoImage,
      G.excAt_mk KX g ?a_NoInput ?x_NoInput ?kp_NoInput ?b_NoInput ?t_NoInput ?i_NoInput ?s_NoInput,
      G.excAt_mk KX g ?a_NoSteps ?x_NoSteps ?kp_NoSteps ?b_NoSteps ?t_NoSteps ?i_NoSteps ?s_NoSteps,
      ⟨_, PySem.W.mg_of KX g ?a_Machine,
        G.cls_mk ?pg_Machine ?hd_Machine ?po_Machine ?sa_Machine,
        ⟨?xa_Machine, ?xb_Machine, ?xc_Machine, ?xd_Machine, ?xe_Machine⟩,
        G.noAttr_mk ?n_Machine_own_cells,
        G.noAttr_mk ?n_Machine_own_place,
        G.noAttr_mk ?n_Machine_own_hand,
        G.noAttr_mk ?n_Machine_own_text,
        G.noAttr_mk ?n_Machine_own_read,
        G.noAttr_mk ?n_Machine_own_written,
        G.noAttr_mk ?n_Machine_own_ended,
        ⟨_, G.sqTK_mk ?e0_Machine____init__ ?u0_Machine____init__, G.init_mk ?fi_Machine____init__ ?fn_Machine____init__ ?l_Machine____init__ ?c_Machine____init__ ?kp_Machine____init__ ?mk_Machine____init__ ?kc_Machine____init__ (G.dfl_some ?t_Machine____init__ ?v_Machine____init__) (G.kws_cons (G.kw_int ?w_Machine____init___place) (G.kws_cons (G.kw_str ?w_Machine____init___text) (G.kws_nil)))⟩,
        G.meth_mk ?fi_Machine__leads ?fn_Machine__leads ?l_Machine__leads ?c_Machine__leads ?kp_Machine__leads (fun _ _ _ _ _ _ us hl => match us, hl with | [_, _], _ => rfl),
        G.meth_mk ?fi_Machine__take_sign ?fn_Machine__take_sign ?l_Machine__take_sign ?c_Machine__take_sign ?kp_Machine__take_sign (fun _ _ _ _ _ _ us hl => match us, hl with | [_], _ => rfl),
        G.meth_mk ?fi_Machine__do ?fn_Machine__do ?l_Machine__do ?c_Machine__do ?kp_Machine__do (fun _ _ _ _ _ _ us hl => match us, hl with | [_, _, _], _ => rfl),
        G.meth_mk ?fi_Machine__step ?fn_Machine__step ?l_Machine__step ?c_Machine__step ?kp_Machine__step (fun _ _ _ _ _ _ us hl => match us, hl with | [_], _ => rfl),
        G.methK_mk ?fi_Machine__run ?fn_Machine__run ?l_Machine__run ?c_Machine__run ?kp_Machine__run G.dfl_none (G.kws_cons (G.kw_int ?w_Machine__run_most) (G.kws_nil)),
        G.meth_mk ?fi_Machine__place ?fn_Machine__place ?l_Machine__place ?c_Machine__place ?kp_Machine__place (fun _ _ _ _ _ _ us hl => match us, hl with | [_], _ => rfl),
        G.meth_mk ?fi_Machine__hand ?fn_Machine__hand ?l_Machine__hand ?c_Machine__hand ?kp_Machine__hand (fun _ _ _ _ _ _ us hl => match us, hl with | [_], _ => rfl),
        G.meth_mk ?fi_Machine__read ?fn_Machine__read ?l_Machine__read ?c_Machine__read ?kp_Machine__read (fun _ _ _ _ _ _ us hl => match us, hl with | [_], _ => rfl),
        G.meth_mk ?fi_Machine__written ?fn_Machine__written ?l_Machine__written ?c_Machine__written ?kp_Machine__written (fun _ _ _ _ _ _ us hl => match us, hl with | [_], _ => rfl),
        G.meth_mk ?fi_Machine__ended ?fn_Machine__ended ?l_Machine__ended ?c_Machine__ended ?kp_Machine__ended (fun _ _ _ _ _ _ us hl => match us, hl with | [_], _ => rfl),
        G.meth_mk ?fi_Machine__cells ?fn_Machine__cells ?l_Machine__cells ?c_Machine__cells ?kp_Machine__cells (fun _ _ _ _ _ _ us hl => match us, hl with | [_], _ => rfl),
        G.meth_mk ?fi_Machine__left ?fn_Machine__left ?l_Machine__left ?c_Machine__left ?kp_Machine__left (fun _ _ _ _ _ _ us hl => match us, hl with | [_], _ => rfl),
        G.meth_mk ?fi_Machine__stands_as ?fn_Machine__stands_as ?l_Machine__stands_as ?c_Machine__stands_as ?kp_Machine__stands_as (fun _ _ _ _ _ _ us hl => match us, hl with | [_, _], _ => rfl),
        G.meth_mk ?fi_Machine____eq__ ?fn_Machine____eq__ ?l_Machine____eq__ ?c_Machine____eq__ ?kp_Machine____eq__ (fun _ _ _ _ _ _ us hl => match us, hl with | [_, _], _ => rfl)⟩⟩
    (case a__law_pen_of => k_is)
    (case l__law_pen_of => k_is)
    (case c__law_pen_of => k_is)
    (case k__law_pen_of => k_is)
    (case a__law_cell_at => k_is)
    (case l__law_cell_at => k_is)
    (case c__law_cell_at => k_is)
    (case k__law_cell_at => k_is)
    (case a__law_next => k_is)
    (case l__law_next => k_is)
    (case c__law_next => k_is)
    (case k__law_next => k_is)
    (case a__law_draw => k_is)
    (case l__law_draw => k_is)
    (case c__law_draw => k_is)
    (case k__law_draw => k_is)
    (case a__law_leads => k_is)
    (case l__law_leads => k_is)
    (case c__law_leads => k_is)
    (case k__law_leads => k_is)
    (case a__law_odd_address => k_is)
    (case l__law_odd_address => k_is)
    (case c__law_odd_address => k_is)
    (case k__law_odd_address => k_is)
    (case a__law_image => k_is)
    (case l__law_image => k_is)
    (case c__law_image => k_is)
    (case k__law_image => k_is)
    (case a__law_given => k_is)
    (case l__law_given => k_is)
    (case c__law_given => k_is)
    (case k__law_given => k_is)
    (case a__law_made => k_is)
    (case l__law_made => k_is)
    (case c__law_made => k_is)
    (case k__law_made => k_is)
    (case a_is_whole => k_is)
    (case l_is_whole => k_is)
    (case c_is_whole => k_is)
    (case k_is_whole => k_is)
    (case a_is_between => k_is)
    (case l_is_between => k_is)
    (case c_is_between => k_is)
    (case k_is_between => k_is)
    (case a_is_word => k_is)
    (case l_is_word => k_is)
    (case c_is_word => k_is)
    (case k_is_word => k_is)
    (case a_need_cells => k_is)
    (case l_need_cells => k_is)
    (case c_need_cells => k_is)
    (case k_need_cells => k_is)
    (case a_is_address => k_is)
    (case l_is_address => k_is)
    (case c_is_address => k_is)
    (case k_is_address => k_is)
    (case a_need_address => k_is)
    (case l_need_address => k_is)
    (case c_need_address => k_is)
    (case k_need_address => k_is)
    (case a_need_input => k_is)
    (case l_need_input => k_is)
    (case c_need_input => k_is)
    (case k_need_input => k_is)
    (case a_kind_by => k_is)
    (case l_kind_by => k_is)
    (case c_kind_by => k_is)
    (case k_kind_by => k_is)
    (case a_is_leading => k_is)
    (case l_is_leading => k_is)
    (case c_is_leading => k_is)
    (case k_is_leading => k_is)
    (case a_address_by => k_is)
    (case l_address_by => k_is)
    (case c_address_by => k_is)
    (case k_address_by => k_is)
    (case a_leads_within => k_is)
    (case l_leads_within => k_is)
    (case c_leads_within => k_is)
    (case k_leads_within => k_is)
    (case a_is_image => k_is)
    (case l_is_image => k_is)
    (case c_is_image => k_is)
    (case k_is_image => k_is)
    (case a_need_image => k_is)
    (case l_need_image => k_is)
    (case c_need_image => k_is)
    (case k_need_image => k_is)
    (case a_need_base => k_is)
    (case l_need_base => k_is)
    (case c_need_base => k_is)
    (case k_need_base => k_is)
    (case a_led_on => k_is)
    (case l_led_on => k_is)
    (case c_led_on => k_is)
    (case k_led_on => k_is)
    (case a_placed => k_is)
    (case l_placed => k_is)
    (case c_placed => k_is)
    (case k_placed => k_is)
    (case a_loaded => k_is)
    (case l_loaded => k_is)
    (case c_loaded => k_is)
    (case k_loaded => k_is)
    (case t_loaded => k_is)
    (case v_loaded => repeat (first | exact .nil | refine .cons ?_ ?_ | exact ⟨_, rfl⟩ | rfl))
    (case w_loaded_text => k_is)
    (case a_need_steps => k_is)
    (case l_need_steps => k_is)
    (case c_need_steps => k_is)
    (case k_need_steps => k_is)
    (case a__law_stands => k_is)
    (case l__law_stands => k_is)
    (case c__law_stands => k_is)
    (case k__law_stands => k_is)
    (case a__law_placed => k_is)
    (case l__law_placed => k_is)
    (case c__law_placed => k_is)
    (case k__law_placed => k_is)
    (case a__law_hand => k_is)
    (case l__law_hand => k_is)
    (case c__law_hand => k_is)
    (case k__law_hand => k_is)
    (case a__law_step => k_is)
    (case l__law_step => k_is)
    (case c__law_step => k_is)
    (case k__law_step => k_is)
    (case a__law_run => k_is)
    (case l__law_run => k_is)
    (case c__law_run => k_is)
    (case k__law_run => k_is)
    (case a_law => k_is)
    (case l_law => k_is)
    (case c_law => k_is)
    (case k_law => k_is)
    (case b_all => k_is)
    (case b_bool => k_is)
    (case b_int => k_is)
    (case b_isinstance => k_is)
    (case b_len => k_is)
    (case b_list => k_is)
    (case b_max => k_is)
    (case b_ord => k_is)
    (case b_range => k_is)
    (case b_repr => k_is)
    (case b_str => k_is)
    (case b_tuple => k_is)
    (case c_ADD => k_is)
    (case c_END => k_is)
    (case c_FROM => k_is)
    (case c_GO => k_is)
    (case c_GREAT => k_is)
    (case c_HALF => k_is)
    (case c_INTO => k_is)
    (case c_LEADING => k_is)
    (case l_LEADING => k_is)
    (case v_LEADING => repeat (first | exact .nil | refine .cons ?_ ?_ | exact ⟨_, rfl⟩ | rfl))
    (case c_LEAST_BASE => k_is)
    (case c_LESS => k_is)
    (case c_LOAD => k_is)
    (case c_MOST_CELLS => k_is)
    (case c_MOST_LENGTH => k_is)
    (case c_MOST_STEPS => k_is)
    (case c_MOST_WORD => k_is)
    (case c_OTHER => k_is)
    (case c_READ => k_is)
    (case c_ROUND => k_is)
    (case c_SMALL => k_is)
    (case c_SPAN => k_is)
    (case c_STORE => k_is)
    (case c_TAKE => k_is)
    (case c_WRITE => k_is)
    (case c_ZERO => k_is)
    (case a_NoAddress => k_is)
    (case kp_NoAddress => k_is)
    (case b_NoAddress => k_is)
    (case t_NoAddress => k_is)
    (case i_NoAddress => k_is)
    (case s_NoAddress => k_is)
    (case x_NoAddress => k_exc)
    (case a_NoBase => k_is)
    (case kp_NoBase => k_is)
    (case b_NoBase => k_is)
    (case t_NoBase => k_is)
    (case i_NoBase => k_is)
    (case s_NoBase => k_is)
    (case x_NoBase => k_exc)
    (case a_NoCells => k_is)
    (case kp_NoCells => k_is)
    (case b_NoCells => k_is)
    (case t_NoCells => k_is)
    (case i_NoCells => k_is)
    (case s_NoCells => k_is)
    (case x_NoCells => k_exc)
    (case a_NoImage => k_is)
    (case kp_NoImage => k_is)
    (case b_NoImage => k_is)
    (case t_NoImage => k_is)
    (case i_NoImage => k_is)
    (case s_NoImage => k_is)
    (case x_NoImage => k_exc)
    (case a_NoInput => k_is)
    (case kp_NoInput => k_is)
    (case b_NoInput => k_is)
    (case t_NoInput => k_is)
    (case i_NoInput => k_is)
    (case s_NoInput => k_is)
    (case x_NoInput => k_exc)
    (case a_NoSteps => k_is)
    (case kp_NoSteps => k_is)
    (case b_NoSteps => k_is)
    (case t_NoSteps => k_is)
    (case i_NoSteps => k_is)
    (case s_NoSteps => k_is)
    (case x_NoSteps => k_exc)
    (case a_Machine => k_is)
    (case pg_Machine => k_is)
    (case hd_Machine => k_is)
    (case po_Machine => k_is)
    (case sa_Machine => k_is)
    (case xa_Machine => k_is)
    (case xb_Machine => k_is)
    (case xc_Machine => k_is)
    (case xd_Machine => k_is)
    (case xe_Machine => k_is)
    (case n_Machine_own_cells => k_is)
    (case n_Machine_own_place => k_is)
    (case n_Machine_own_hand => k_is)
    (case n_Machine_own_text => k_is)
    (case n_Machine_own_read => k_is)
    (case n_Machine_own_written => k_is)
    (case n_Machine_own_ended => k_is)
    (case fi_Machine____init__ => k_is)
    (case fn_Machine____init__ => k_is)
    (case l_Machine____init__ => k_is)
    (case c_Machine____init__ => k_is)
    (case kp_Machine____init__ => k_is)
    (case mk_Machine____init__ => k_is)
    (case kc_Machine____init__ => k_is)
    (case t_Machine____init__ => k_is)
    (case v_Machine____init__ => repeat (first | exact .nil | refine .cons ?_ ?_ | exact ⟨_, rfl⟩ | rfl))
    (case e0_Machine____init__ => k_is)
    (case u0_Machine____init__ => repeat (first | exact .nil | refine .cons ?_ ?_ | exact ⟨_, rfl⟩ | rfl))
    (case w_Machine____init___place => k_is)
    (case w_Machine____init___text => k_is)
    (case fi_Machine__leads => k_is)
    (case fn_Machine__leads => k_is)
    (case l_Machine__leads => k_is)
    (case c_Machine__leads => k_is)
    (case kp_Machine__leads => k_is)
    (case fi_Machine__take_sign => k_is)
    (case fn_Machine__take_sign => k_is)
    (case l_Machine__take_sign => k_is)
    (case c_Machine__take_sign => k_is)
    (case kp_Machine__take_sign => k_is)
    (case fi_Machine__do => k_is)
    (case fn_Machine__do => k_is)
    (case l_Machine__do => k_is)
    (case c_Machine__do => k_is)
    (case kp_Machine__do => k_is)
    (case fi_Machine__step => k_is)
    (case fn_Machine__step => k_is)
    (case l_Machine__step => k_is)
    (case c_Machine__step => k_is)
    (case kp_Machine__step => k_is)
    (case fi_Machine__run => k_is)
    (case fn_Machine__run => k_is)
    (case l_Machine__run => k_is)
    (case c_Machine__run => k_is)
    (case kp_Machine__run => k_is)
    (case w_Machine__run_most => k_is)
    (case fi_Machine__place => k_is)
    (case fn_Machine__place => k_is)
    (case l_Machine__place => k_is)
    (case c_Machine__place => k_is)
    (case kp_Machine__place => k_is)
    (case fi_Machine__hand => k_is)
    (case fn_Machine__hand => k_is)
    (case l_Machine__hand => k_is)
    (case c_Machine__hand => k_is)
    (case kp_Machine__hand => k_is)
    (case fi_Machine__read => k_is)
    (case fn_Machine__read => k_is)
    (case l_Machine__read => k_is)
    (case c_Machine__read => k_is)
    (case kp_Machine__read => k_is)
    (case fi_Machine__written => k_is)
    (case fn_Machine__written => k_is)
    (case l_Machine__written => k_is)
    (case c_Machine__written => k_is)
    (case kp_Machine__written => k_is)
    (case fi_Machine__ended => k_is)
    (case fn_Machine__ended => k_is)
    (case l_Machine__ended => k_is)
    (case c_Machine__ended => k_is)
    (case kp_Machine__ended => k_is)
    (case fi_Machine__cells => k_is)
    (case fn_Machine__cells => k_is)
    (case l_Machine__cells => k_is)
    (case c_Machine__cells => k_is)
    (case kp_Machine__cells => k_is)
    (case fi_Machine__left => k_is)
    (case fn_Machine__left => k_is)
    (case l_Machine__left => k_is)
    (case c_Machine__left => k_is)
    (case kp_Machine__left => k_is)
    (case fi_Machine__stands_as => k_is)
    (case fn_Machine__stands_as => k_is)
    (case l_Machine__stands_as => k_is)
    (case c_Machine__stands_as => k_is)
    (case kp_Machine__stands_as => k_is)
    (case fi_Machine____eq__ => k_is)
    (case fn_Machine____eq__ => k_is)
    (case l_Machine____eq__ => k_is)
    (case c_Machine____eq__ => k_is)
    (case kp_Machine____eq__ => k_is)
#print axioms PySem.Challenge.cw_seedmill_k27_images_loaded_holds
