import PyProof.Rows.All
import Wide.All
import OpenK.AllK
import Wide.FinOn
import Lean
import HandS.ForMost
import HandS.ForExc
import HandS.Evl
import HandS.Wide
import HandS.IsInst
import HandS.Flow
import HandS.Conv
import HandS.Rev
import HandS.RevTup
import HandS.Deep
import HandS.Defaults
import HandS.TryOnly
import HandS.TryMany
import HandS.ExcIs
import HandS.ExcOwn
import HandS.Walk
import HandS.DictComp
import HandS.SortKw
import HandS.StrMore
import HandS.StrSplit
import HandS.Head0
import HandS.Head1
import HandS.Head2
import HandS.HeadEnd
import HandS.HeadHook1
import HandS.HeadHook2
import HandS.Codes
import PySem.Challenge.RW_herefrom_k47_packed_data_are_unpacked
set_option Elab.async false
set_option linter.all false
set_option maxRecDepth 100000
set_option maxHeartbeats 0
/-! Common ground of the proofs over herefrom: calls with a finer count of room, the rules by kinds of values, steps. -/
namespace Hf
open PySem PySem.Spec PyProof.Rows L2

/-! ### room: one unit a call -/
structure Rm (k : Nat) (A : Around) : Prop where
  hd : A.handled = none
  dp : A.depth + k + 8 < recursionLimit
  un : A.units + 4 * k + 300 < cLine
theorem Rm.mono {j k : Nat} {A : Around} (r : Rm k A) (h : j ≤ k) : Rm j A := ⟨r.hd, by have := r.dp; omega, by have := r.un; omega⟩
theorem Rm.deeper {k : Nat} {A : Around} (r : Rm (k + 1) A) (env : Env) : Rm k (A.deeper env) :=
  ⟨r.hd, by have := r.dp; show A.depth + 1 + k + 8 < _; omega, by have := r.un; show A.units + 3 + 4 * k + 300 < _; omega⟩
theorem Rm.make {k : Nat} {A : Around} (r : Rm (k + 1) A) (C : Addr) (us : List Value) (kw : List (Str × Value)) : Rm k (A.under (.builtin "type.__call__" ⟨.ref C :: us, kw⟩)) :=
  ⟨r.hd, by have := r.dp; rw [make_depth]; omega, by have := r.un; rw [make_units]; omega⟩
theorem Rm.depth {k : Nat} {A : Around} (r : Rm k A) : A.depth < recursionLimit := by have := r.dp; omega
theorem Rm.units {k : Nat} {A : Around} (r : Rm k A) : A.units + 64 < cLine := by have := r.un; omega
theorem Rm.units0 {k : Nat} {A : Around} (r : Rm k A) : A.units < cLine := by have := r.un; omega
theorem Rm.hu {k : Nat} {A : Around} (r : Rm k A) : A.units + 1 < cLine := by have := r.un; omega
theorem Rm.of_room {A : Around} (r : Room 231 A) : Rm 690 A := ⟨r.hd, by have := r.dp; omega, by have := r.un; omega⟩

/-! ### a def's promise, by that room -/
structure FnOkR (P : Program) (w : World) (K : PySem.W.Frag) (mg : Str → Option Value) (base : Heap) (k : Nat) (f : Addr) (fd : FuncData) (ps : List Str) (sp : Sp) : Prop where
  len : ∀ vs H Q E, sp vs H Q E → vs.length = ps.length
  run : ∀ (A : Around) (outer : List Env) (s : Shared) (H : Hp) (args : Args) (us : List Value) (vs : List V) (Q : VK) (E : XK), Rm k A → Env0 P w K mg base A outer s H → BindsTo s fd args (ps.zip us) → Vals vs us → sp vs H Q E →
    codeAny (model P w) A (.call (.ref f) args) (CR (L2.CX P w) outer P w H s Q E) s
section
variable {P : Program} {w : World} {K : PySem.W.Frag} {mg : Str → Option Value} {base : Heap}
theorem FnOkR.mono {j k : Nat} {f : Addr} {fd : FuncData} {ps : List Str} {sp : Sp} (F : FnOkR P w K mg base j f fd ps sp) (h : j ≤ k) :
    FnOkR P w K mg base k f fd ps sp := ⟨F.len, fun A outer s H args us vs Q E hr => F.run A outer s H args us vs Q E (hr.mono h)⟩
theorem FnOkR.law {f : Addr} {fd : FuncData} {ps : List Str} {sp : Sp} (F : FnOkR P w K mg base 690 f fd ps sp) : FnOk P w K mg base (L2.CX P w) 231 f fd ps sp :=
  ⟨F.len, fun A outer s H args us vs Q E hr => F.run A outer s H args us vs Q E (.of_room hr)⟩
theorem fn_ofR {k : Nat} {f : Addr} {name qual : Str} {params : Arguments} {body : List Stmt} {scope : Scope} {dV kV doc pm cdv ct oc : Value} {an od : Option Addr}
    {osl : Array (Option Value)} {N ps : List Str} {sp : Sp} (lk : K.lookup f = some ⟨oc, od, .func (PySem.W.fnOf name qual params body scope dV kV doc pm an cdv ct), osl⟩) (hcd : PySem.W.codeIn K cdv qual = true) (S : FnScope N ps scope)
    (len : ∀ vs H Q E, sp vs H Q E → vs.length = ps.length)
    (hbody : ∀ (A : Around) (outer : List Env) (s : Shared) (H : Hp) (vs : List V) (Q : VK) (E : XK), Rm k (A.deeper (envOfC qual scope s.heap.objs.size f cdv)) → sp vs H Q E →
      ∃ t, PSs (cxOf (L2.CX P w) P w K mg base N qual scope f cdv A outer s H E) body t ∧ t { nx := fun _ H' => Q .non H', rt := Q } (start N vs) H) :
    FnOkR P w K mg base (k + 1) f (PySem.W.fnOf name qual params body scope dV kV doc pm an cdv ct) ps sp := by
  refine ⟨len, fun A outer s H args us vs Q E hr e0 hb r hsp => ?_⟩
  have hl := len _ _ _ _ hsp
  have KX : K.In s.heap := e0.mod.kin.keeps fun b o e => (e0.bs b o e).1
  have lim : s.heap.NoLimit := e0.mod.nolimit.keeps fun b o e => (e0.bs b o e).1
  have hkind : ∀ y ∈ ps.zip us, scope.names.lookup y.1 = some .local ∨ (scope.names.lookup y.1 = some .cell ∧ ((cellsFrom (s.heap.objs.size + 1) scope.names []).lookup y.1).isSome = true) := fun ⟨n, v⟩ hy => by
    rcases S.par n (List.of_mem_zip hy).1 with q | q
    · exact .inl q
    · exact .inr ⟨q, PySem.W.cellsFrom_some _ _ _ (.inl q)⟩
  refine codeAny_call_function hr.depth (KX _ _ lk) rfl S.co S.gen rfl (PySem.W.codeRec_of KX hcd) (hb _ _ _ _ ?_)
  refine wpAny_newFunctionEnv_cells S.kind hkind fun env he s1 x => ?_
  subst he
  refine ⟨lim.keeps x.toInCall.keep, codeAny_func ?_⟩
  obtain ⟨t, ht, hq⟩ := hbody A outer s H vs Q E (hr.deeper _) hsp
  have I : Inv (cxOf (L2.CX P w) P w K mg base N qual scope f cdv A outer s H E) [] (start N vs) H s1 := inv_start S hr.hd e0 hl r x
  refine wpAny_mono (ht.run [] s1 (start N vs) H _ I hq) (fun fl s' hs => ?_) fun e s' hs => hs
  have fin : ∀ {σ' : L2.St} {H' : Hp} {v : V} {u : Value}, Inv (cxOf (L2.CX P w) P w K mg base N qual scope f cdv A outer s H E) [] σ' H' s' → RelV v u → Q v H' → CE outer P w H s Q u s' :=
    fun {σ' H' v u} J rv q => ⟨v, H', J.os, J.bare, J.base, J.hok, rv, q⟩
  cases fl with
  | ret u =>
    obtain ⟨v, σ', H', J, rv, q⟩ := hs
    exact fin J rv q
  | next =>
    obtain ⟨σ', H', J, q⟩ := hs
    exact fin (v := V.non) (u := Value.none) J rfl q
  | brk =>
    obtain ⟨_, _, _, q⟩ := hs
    exact False.elim q
  | cont =>
    obtain ⟨_, _, _, q⟩ := hs
    exact False.elim q
/-- a def of the text: its promise by its body -/
theorem okR {x qual : Str} {st : Stmt} {dvs : List V} {kws : List (Str × V)} {f : Addr} {fd : FuncData} {N ps : List Str} {k : Nat} {sp : Sp} (F : FunD K x qual (defArgs st) (defBody st) (defScope st) dvs kws f fd) (S : FnScope N ps (defScope st))
    (len : ∀ vs H Q E, sp vs H Q E → vs.length = ps.length)
    (hbody : ∀ (cdv : Value) (A : Around) (outer : List Env) (s : Shared) (H : Hp) (vs : List V) (Q : VK) (E : XK), Rm k (A.deeper (envOfC qual (defScope st) s.heap.objs.size f cdv)) → sp vs H Q E →
      ∃ t, PSs (cxOf (L2.CX P w) P w K mg base N qual (defScope st) f cdv A outer s H E) (defBody st) t ∧ t { nx := fun _ H' => Q .non H', rt := Q } (start N vs) H) : FnOkR P w K mg base (k + 1) f fd ps sp := by
  obtain ⟨oc, od, dV, kV, doc, pm, an, cdv, ct, osl, rfl, lk, hcd, _, _⟩ := F.ex
  exact fn_ofR lk hcd S len fun A outer s H vs Q E hr hsp => hbody cdv A outer s H vs Q E hr hsp

/-! ### names that are called -/
/-- a def of the module, under its name -/
structure Fn (P : Program) (w : World) (K : PySem.W.Frag) (mg : Str → Option Value) (base : Heap) (k : Nat) (x : Str) (sp : Sp) : Prop where
  ex : ∃ (f : Addr) (fd : FuncData) (ps : List Str), FnOkR P w K mg base k f fd ps sp ∧ mg x = some (.ref f) ∧ PySem.W.keepIn K (.ref f) = true ∧ Binds K fd ps []
/-- a method of the class at C; dvs: the defaults that fill up -/
structure Mt (P : Program) (w : World) (K : PySem.W.Frag) (mg : Str → Option Value) (base : Heap) (k : Nat) (C : Addr) (m : Str) (sp : Sp) (dvs : List V) : Prop where
  ex : ∃ (f : Addr) (fd : FuncData) (ps : List Str) (ds : List Value), Cls K C ∧ Meth K C m f ∧ FnOkR P w K mg base k f fd ps sp ∧ Binds K fd ps ds ∧ Vals dvs ds
/-- a class that is made by its name -/
structure Mkr (P : Program) (w : World) (K : PySem.W.Frag) (mg : Str → Option Value) (base : Heap) (k : Nat) (x : Str) (C : Addr) (sp : Sp) (dvs : List V) : Prop where
  ex : ∃ (f : Addr) (fd : FuncData) (ps : List Str) (ds : List Value), Mk K C f ∧ FnOkR P w K mg base k f fd ps sp ∧ mg x = some (.ref C) ∧ Binds K fd ps ds ∧ Vals dvs ds
theorem Fn.imp {k : Nat} {x : Str} {sp sp' : Sp} (F : Fn P w K mg base k x sp) (h : ∀ vs H Q E, sp' vs H Q E → sp vs H Q E) : Fn P w K mg base k x sp' := by
  obtain ⟨f, fd, ps, F, a, b, c⟩ := F.ex
  exact ⟨f, fd, ps, ⟨fun vs H Q E q => F.len vs H Q E (h _ _ _ _ q), fun A outer s H args us vs Q E hr he hb hv hs => F.run A outer s H args us vs Q E hr he hb hv (h _ _ _ _ hs)⟩, a, b, c⟩
theorem Fn.mono {j k : Nat} {x : Str} {sp : Sp} (F : Fn P w K mg base j x sp) (h : j ≤ k) : Fn P w K mg base k x sp := by
  obtain ⟨f, fd, ps, F, a, b, c⟩ := F.ex
  exact ⟨f, fd, ps, F.mono h, a, b, c⟩
end
section
variable {X : Cx} {j k : Nat} {f C : Addr} {fd : FuncData} {ps : List Str} {sp : Sp} {dvs : List V} {ds : List Value} {E : XK} {x m : Str} {p pos apos : Pos} {e o : Expr} {es : List Expr} {ta : TE} {t : TA}
theorem run_fnR {pins : List (Addr × Obj)} {σ : L2.St} {H : Hp} {s : Shared} {Q : VK} {us : List Value} {vs : List V} (F : FnOkR X.prog X.w X.K X.mg X.base k f fd ps sp) (hr : Rm k X.A) (hb : Binds X.K fd ps ds) (hd : Vals dvs ds) (hx : PassesAt (L2.CX X.prog X.w) X σ E)
    (I : Inv X pins σ H s) (r : Vals vs us) (h : sp (vs ++ dvs) H Q E) : wpAny (model X.prog X.w) X.A (call (.ref f) us) (EP X pins σ Q) X.xe s := by
  have r2 : Vals (vs ++ dvs) (us ++ ds) := r.append hd
  have hl : (us ++ ds).length = ps.length := by rw [← r2.length]; exact F.len _ _ _ _ h
  refine wpAny_call (codeAny_mono (F.run X.A X.stack s H ⟨us, []⟩ (us ++ ds) (vs ++ dvs) Q E hr I.env0 (hb s us I.kIn hl) r2 h) fun r s' hq => ?_)
  cases r with
  | error e => exact hx pins H s e s' I hq
  | ok fl =>
    cases fl with
    | ret u => exact I.after hq
    | next => exact False.elim hq
    | brk => exact False.elim hq
    | cont => exact False.elim hq
/-- what is raised goes where the def's own E is -/
theorem px {W : WX} (tk : Takes X W) (σ : L2.St) : PassesAt (L2.CX X.prog X.w) X σ (WE W σ) := passAt tk σ
theorem px0 (σ : L2.St) : PassesAt (L2.CX X.prog X.w) X σ E0 := fun pins H s e s' I c => passL pins σ H s e s' I c
/-- f(e, ..); Ex: the wish at the slots -/
def tCal (sp : Sp) (Ex : L2.St → XK) (t : TA) : TE := fun σ H Q => t σ H fun vs H1 => sp vs H1 Q (Ex σ)
theorem pe_f {Ex : L2.St → XK} (F : Fn X.prog X.w X.K X.mg X.base k x sp) (hr : Rm j X.A) (hk : k ≤ j) (hg : Gl X x) (hx : ∀ σ, PassesAt (L2.CX X.prog X.w) X σ (Ex σ))
    (ha : PA X (e :: es) t) (hdb : (x == ("__debug__" : Str)) = false := by decide) (he : starEach (e :: es) X.env = (false, eval e X.env) :: starEach es X.env := by rfl) (hpl : (backTo pos (starEach es X.env)).any (·.1) = false := by rfl) :
    PE X (.Call (.Name x p) (e :: es) [] pos) (tCal sp Ex t) := by
  obtain ⟨f, fd, ps, F, hm, kp, hb⟩ := F.ex
  refine ⟨fun pins s σ H Q I h => ?_⟩
  refine wpAny_Call_Name_kw (ld_glob I hg hm ?_ hdb)
  refine PySem.W.callWith_K (h₀ := X.base) I.ok.mod.kin kp (thn (ha.run pos pins s σ H _ I h) fun us s1 ⟨vs, H1, I1, r, q⟩ => ⟨I1.kIn, ?_⟩) he hpl
  exact run_fnR (dvs := []) F (hr.mono hk) hb .nil (hx σ) I1 r (by rw [List.append_nil]; exact q)
theorem pe_f0 {Ex : L2.St → XK} (F : Fn X.prog X.w X.K X.mg X.base k x sp) (hr : Rm j X.A) (hk : k ≤ j) (hg : Gl X x) (hx : ∀ σ, PassesAt (L2.CX X.prog X.w) X σ (Ex σ))
    (hdb : (x == ("__debug__" : Str)) = false := by decide) : PE X (.Call (.Name x p) [] [] pos) (tCal sp Ex tNil) := by
  obtain ⟨f, fd, ps, F, hm, kp, hb⟩ := F.ex
  refine ⟨fun pins s σ H Q I h => ?_⟩
  refine wpAny_Call_Name_kw (ld_glob I hg hm ?_ hdb)
  exact PySem.W.callWith_K0 I.kIn kp (run_fnR (dvs := []) (us := []) F (hr.mono hk) hb .nil (hx σ) I .nil (by rw [List.append_nil]; exact h))
/-- o.m(e, ..) -/
def tMt (C : Addr) (m : Str) (sp : Sp) (dvs : List V) (Ex : L2.St → XK) (ta : TE) (t : TA) : TE := fun σ H Q => ta σ H fun x H1 => ∃ a dx fs, x = .ref a ∧ H1 a = some (.ins C dx fs) ∧ fs.lookup m = none ∧
  t σ H1 fun vs H2 => sp (x :: (vs ++ dvs)) H2 Q (Ex σ)
theorem pe_m {Ex : L2.St → XK} {pl : Sem Bool} (F : Mt X.prog X.w X.K X.mg X.base k C m sp dvs) (hr : Rm j X.A) (hk : k ≤ j) (hx : ∀ σ, PassesAt (L2.CX X.prog X.w) X σ (Ex σ)) (he : PE X o ta) (ha : PA X (e :: es) t)
    (hst : starEach (e :: es) X.env = (false, eval e X.env) :: starEach es X.env := by rfl) (hpl : (backTo pos (starEach es X.env)).any (·.1) = false := by rfl)
    (ht : eval (.Call (.Attribute o m apos) (e :: es) [] pos) X.env = (do
      let ov ← eval o X.env
      standAt apos.atName
      let (f, first) ← holding [ov] (getMethod ov m pl)
      callWith pos f first (backTo pos (starEach (e :: es) X.env)) (backToKw pos (keywordEach [] X.env))) := by rfl) :
    PE X (.Call (.Attribute o m apos) (e :: es) [] pos) (tMt C m sp dvs Ex ta t) := by
  obtain ⟨f, fd, ps, ds, c, hm, F, hb, hd⟩ := F.ex
  refine ⟨fun pins s σ H Q I h => ?_⟩
  refine PySem.W.methodCall_KW (pl := pl) (thn (he.run pins s σ H _ I h) fun u s1 ⟨x, H1, I1, rx, a, dx, fs, ex, ea, l, q⟩ => ?_) ht
  subst ex
  obtain rfl : u = Value.ref a := rx
  refine getmeth_ok I1 ea c hm l ?_
  refine PySem.W.callWith_K (first := [.ref a]) (h₀ := X.base) I.ok.mod.kin hm.kp (thn (ha.run pos pins s1 σ H1 _ I1 q) fun us s2 ⟨vs, H2, I2, r, q2⟩ => ⟨I2.kIn, ?_⟩) hst hpl
  exact run_fnR (us := .ref a :: us) (vs := .ref a :: vs) F (hr.mono hk) hb hd (hx σ) I2 (.cons rfl r) q2
/-- o.m() -/
theorem pe_m0 {Ex : L2.St → XK} {pl : Sem Bool} (F : Mt X.prog X.w X.K X.mg X.base k C m sp dvs) (hr : Rm j X.A) (hk : k ≤ j) (hx : ∀ σ, PassesAt (L2.CX X.prog X.w) X σ (Ex σ)) (he : PE X o ta)
    (ht : eval (.Call (.Attribute o m apos) [] [] pos) X.env = (do
      let ov ← eval o X.env
      standAt apos.atName
      let (f, first) ← holding [ov] (getMethod ov m pl)
      callWith pos f first (backTo pos (starEach [] X.env)) (backToKw pos (keywordEach [] X.env))) := by rfl) :
    PE X (.Call (.Attribute o m apos) [] [] pos) (tMt C m sp dvs Ex ta tNil) := by
  obtain ⟨f, fd, ps, ds, c, hm, F, hb, hd⟩ := F.ex
  refine ⟨fun pins s σ H Q I h => ?_⟩
  refine PySem.W.methodCall_KW (pl := pl) (thn (he.run pins s σ H _ I h) fun u s1 ⟨x, H1, I1, rx, a, dx, fs, ex, ea, l, q⟩ => ?_) ht
  subst ex
  obtain rfl : u = Value.ref a := rx
  refine getmeth_ok I1 ea c hm l ?_
  exact PySem.W.callWith_K0 (first := [.ref a]) I1.kIn hm.kp (run_fnR (us := [.ref a]) (vs := [.ref a]) F (hr.mono hk) hb hd (hx σ) I1 (.cons rfl .nil) q)
/-- C(..) -/
def tMkr (C : Addr) (sp : Sp) (dvs : List V) (Ex : L2.St → XK) (t : TA) : TE := fun σ H Q => t σ H fun vs H1 => ∀ x dx, H1 x = none → H1 dx = none → dx ≠ x →
  sp (.ref x :: (vs ++ dvs)) (upd (upd H1 dx (.own x)) x (.ins C dx [])) (fun v H2 => v = .non ∧ Q (.ref x) H2) (Ex σ)
theorem run_makeR {pins : List (Addr × Obj)} {σ : L2.St} {H : Hp} {s : Shared} {Q : VK} {us : List Value} {vs : List V} (M : Mk X.K C f) (F : FnOkR X.prog X.w X.K X.mg X.base k f fd ps sp) (hr : Rm (k + 1) X.A) (hb : Binds X.K fd ps ds) (hd : Vals dvs ds)
    (hx : PassesAt (L2.CX X.prog X.w) X σ E) (I : Inv X pins σ H s) (r : Vals vs us)
    (h : ∀ x dx, H x = none → H dx = none → dx ≠ x → sp (.ref x :: (vs ++ dvs)) (upd (upd H dx (.own x)) x (.ins C dx [])) (fun v H2 => v = .non ∧ Q (.ref x) H2) E) :
    wpAny (model X.prog X.w) X.A (call (.ref C) us) (EP X pins σ Q) X.xe s := by
  have hq := h (s.heap.objs.size + 1) s.heap.objs.size (I.hok.fresh (Nat.le_succ _)) (I.hok.fresh (Nat.le_refl _)) (Nat.ne_of_lt (Nat.lt_succ_self _))
  have I2 := Inv.made (C := C) I
  have r2 : Vals (V.ref (s.heap.objs.size + 1) :: (vs ++ dvs)) (Value.ref (s.heap.objs.size + 1) :: (us ++ ds)) := .cons rfl (r.append hd)
  have hl : (Value.ref (s.heap.objs.size + 1) :: us ++ ds).length = ps.length := by
    have e := r2.length
    rw [F.len _ _ _ _ hq] at e
    exact e.symm
  refine wpAny_call (make_map (f := f) I.kIn M.makes M.init (beq_iff_eq.mp M.fn) (codeAny_mono (F.run _ X.stack _ _ ⟨Value.ref (s.heap.objs.size + 1) :: us, []⟩ (Value.ref (s.heap.objs.size + 1) :: (us ++ ds)) _ _ E (hr.make C us [])
    (I2.env0.make C us []) (hb _ (Value.ref (s.heap.objs.size + 1) :: us) I2.kIn hl) r2 hq) fun r s' hq' => ?_))
  cases r with
  | error e => exact hx pins _ _ e s' I2 hq'
  | ok fl =>
    cases fl with
    | ret u =>
      obtain ⟨v, H', I3, rv, ev, q3⟩ := I2.after hq'
      subst ev
      exact ⟨rv, ⟨V.ref (s.heap.objs.size + 1), H', I3, rfl, q3⟩⟩
    | next => exact False.elim hq'
    | brk => exact False.elim hq'
    | cont => exact False.elim hq'
theorem pe_k {Ex : L2.St → XK} (F : Mkr X.prog X.w X.K X.mg X.base k x C sp dvs) (hr : Rm j X.A) (hk : k + 1 ≤ j) (hg : Gl X x) (hx : ∀ σ, PassesAt (L2.CX X.prog X.w) X σ (Ex σ))
    (ha : PA X (e :: es) t) (hdb : (x == ("__debug__" : Str)) = false := by decide) (he : starEach (e :: es) X.env = (false, eval e X.env) :: starEach es X.env := by rfl) (hpl : (backTo pos (starEach es X.env)).any (·.1) = false := by rfl) :
    PE X (.Call (.Name x p) (e :: es) [] pos) (tMkr C sp dvs Ex t) := by
  obtain ⟨f, fd, ps, ds, M, F, hm, hb, hd⟩ := F.ex
  refine ⟨fun pins s σ H Q I h => ?_⟩
  refine wpAny_Call_Name_kw (ld_glob I hg hm ?_ hdb)
  refine PySem.W.callWith_K (h₀ := X.base) I.ok.mod.kin M.kp (thn (ha.run pos pins s σ H _ I h) fun us s1 ⟨vs, H1, I1, r, q⟩ => ⟨I1.kIn, ?_⟩) he hpl
  exact run_makeR M F (hr.mono hk) hb hd (hx σ) I1 r q
theorem pe_k0 {Ex : L2.St → XK} (F : Mkr X.prog X.w X.K X.mg X.base k x C sp dvs) (hr : Rm j X.A) (hk : k + 1 ≤ j) (hg : Gl X x) (hx : ∀ σ, PassesAt (L2.CX X.prog X.w) X σ (Ex σ))
    (hdb : (x == ("__debug__" : Str)) = false := by decide) : PE X (.Call (.Name x p) [] [] pos) (tMkr C sp dvs Ex tNil) := by
  obtain ⟨f, fd, ps, ds, M, F, hm, hb, hd⟩ := F.ex
  refine ⟨fun pins s σ H Q I h => ?_⟩
  refine wpAny_Call_Name_kw (ld_glob I hg hm ?_ hdb)
  exact PySem.W.callWith_K0 I.kIn M.kp (run_makeR (us := []) M F (hr.mono hk) hb hd (hx σ) I .nil h)
end
end Hf

/-! Rules by kinds of values, and steps: what a reading asks, one construct at a time. -/
namespace Hf
open PySem PySem.Spec PyProof.Rows L2
abbrev St := L2.St

/-! ### heaps -/
/-- all that was tracked stands -/
def Ex (H H' : Hp) : Prop := ∀ a o, H a = some o → H' a = some o
theorem Ex.refl (H : Hp) : Ex H H := fun _ _ h => h
theorem Ex.trans {H H1 H2 : Hp} (a : Ex H H1) (b : Ex H1 H2) : Ex H H2 := fun x o h => b x o (a x o h)
theorem Ex.use {H H' : Hp} {a : Addr} {o : HO} (e : Ex H H') (h : H a = some o) : H' a = some o := e a o h
theorem Ex.new {H : Hp} {p : Addr} {o : HO} (h : H p = none) : Ex H (upd H p o) := fun a u e => by
  rw [upd_ne (ne_of_none e h)]
  exact e
theorem Ex.mut {H H' : Hp} {p : Addr} {o : HO} (e : Ex H H') (h : H p = none) : Ex H (upd H' p o) := fun a u ha => by
  rw [upd_ne (ne_of_none ha h)]
  exact e a u ha
theorem Ex.fresh {H H' : Hp} {p : Addr} (e : Ex H H') (h : H' p = none) : H p = none := by
  cases h1 : H p with
  | none => rfl
  | some o =>
    rw [e p o h1] at h
    cases h
theorem ex_rd {H H' : Hp} {a : Addr} {u : HO} (e : Ex H H') (h : Rd H a u) : Rd H' a u := by
  rcases h with h | ⟨o, h⟩
  · exact Or.inl (e a _ h)
  · exact Or.inr ⟨o, e a _ h⟩
theorem Ex.l {K : PySem.W.Frag} {H H' : Hp} {a : Addr} {xs : List V} (e : Ex H H') (h : SqL K H a xs) : SqL K H' a xs := by
  rcases h with h | h
  · exact Or.inl (ex_rd e h)
  · exact Or.inr h
theorem Ex.t {K : PySem.W.Frag} {H H' : Hp} {a : Addr} {xs : List V} (e : Ex H H') (h : SqT K H a xs) : SqT K H' a xs := by
  rcases h with h | h
  · exact Or.inl (ex_rd e h)
  · exact Or.inr h
theorem ne_fresh {H : Hp} {a p : Addr} {o : HO} (hp : H p = none) (h : H a = some o) : a ≠ p := ne_of_none h hp
theorem upd_at {H : Hp} {a b : Addr} {o u : HO} (n : a ≠ b) (h : H a = some u) : upd H b o a = some u := by rw [upd_ne n]; exact h
/-- the object at l is now o, all else is as it was -/
structure Chg (H : Hp) (l : Addr) (o : HO) (H' : Hp) : Prop where
  at_ : H' l = some o
  ne : ∀ a, a ≠ l → H' a = H a
theorem Chg.use {H H' : Hp} {l a : Addr} {o u : HO} (c : Chg H l o H') (n : a ≠ l) (h : H a = some u) : H' a = some u := by rw [c.ne a n]; exact h
theorem Chg.of {H : Hp} {l : Addr} {o : HO} : Chg H l o (upd H l o) := ⟨upd_same, fun _ n => upd_ne n⟩
theorem Chg.ex {H0 H H' : Hp} {l : Addr} {o : HO} (e : Ex H0 H) (c : Chg H l o H') (h : H0 l = none) : Ex H0 H' := fun a u ha => c.use (ne_of_none ha h) (e a u ha)
theorem Chg.fresh {H H' : Hp} {l p : Addr} {o : HO} (c : Chg H l o H') (h : H' p = none) : H p = none := by
  by_cases e : p = l
  · rw [e, c.at_] at h
    cases h
  · rw [c.ne p e] at h
    exact h
theorem Chg.l {K : PySem.W.Frag} {H H' : Hp} {l a : Addr} {o : HO} {xs : List V} (c : Chg H l o H') (n : a ≠ l) (h : SqL K H a xs) : SqL K H' a xs := by
  rcases h with (h | ⟨u, h⟩) | h
  · exact .inl (.inl (c.use n h))
  · exact .inl (.inr ⟨u, c.use n h⟩)
  · exact .inr h
theorem Chg.t {K : PySem.W.Frag} {H H' : Hp} {l a : Addr} {o : HO} {xs : List V} (c : Chg H l o H') (n : a ≠ l) (h : SqT K H a xs) : SqT K H' a xs := by
  rcases h with (h | ⟨u, h⟩) | h
  · exact .inl (.inl (c.use n h))
  · exact .inl (.inr ⟨u, c.use n h⟩)
  · exact .inr h
/-- allocation, told by the heap behind it -/
theorem w_new {H : Hp} {o : HO} {Q : VK} (k : ∀ p H1, H p = none → Ex H H1 → H1 p = some o → Q (.ref p) H1) : ∀ p, H p = none → Q (.ref p) (upd H p o) := fun p hp => k p _ hp (Ex.new hp) upd_same
theorem w_chg {H : Hp} {l : Addr} {o : HO} {Q : V → Hp → Prop} {v : V} (k : ∀ H1, Chg H l o H1 → Q v H1) : Q v (upd H l o) := k _ .of
theorem w_chgU {H : Hp} {l : Addr} {o : HO} {Q : Hp → Prop} (k : ∀ H1, Chg H l o H1 → Q H1) : Q (upd H l o) := k _ .of

/-! ### sizes -/
theorem sz_of {n : Nat} (h : n ≤ 1000000) : n ≤ sizeLine := Nat.le_trans h (by decide)
theorem sz_lt {n : Nat} (h : n < 1000000) : n < sizeLine := Nat.lt_of_lt_of_le h (by decide)

/-! ### data at any depth -/
mutual
theorem dp_ex {K : PySem.W.Frag} {H H' : Hp} (e : Ex H H') : ∀ {v : V} {d : PyData}, Dp K H v d → Dp K H' v d
  | _, _, .non => .non
  | _, _, .bl b => .bl b
  | _, _, .int i => .int i
  | _, _, .str x => .str x
  | _, _, .lst h a => .lst (e.l h) (dp_exAll e a)
  | _, _, .tup h a => .tup (e.t h) (dp_exAll e a)
theorem dp_exAll {K : PySem.W.Frag} {H H' : Hp} (e : Ex H H') : ∀ {vs : List V} {ds : List PyData}, DpAll K H vs ds → DpAll K H' vs ds
  | _, _, .nil => .nil
  | _, _, .cons h a => .cons (dp_ex e h) (dp_exAll e a)
end
section
variable {K : PySem.W.Frag} {H : Hp} {v : V} {vs ws : List V} {d : PyData} {ds es : List PyData}
theorem da_len : ∀ {vs : List V} {ds : List PyData}, DpAll K H vs ds → vs.length = ds.length
  | _, _, .nil => rfl
  | _, _, .cons _ a => by rw [List.length_cons, List.length_cons, da_len a]
theorem da_get : ∀ {vs : List V} {ds : List PyData} {i : Nat} {d : PyData}, DpAll K H vs ds → ds[i]? = some d → ∃ v, vs[i]? = some v ∧ Dp K H v d
  | _, _, _, _, .nil, e => by simp at e
  | _, _, 0, _, .cons h _, e => by simp at e; subst e; exact ⟨_, rfl, h⟩
  | _, _, i + 1, _, .cons _ a, e => by
    obtain ⟨v, h1, h2⟩ := da_get (i := i) a (by simpa using e)
    exact ⟨v, by simpa using h1, h2⟩
theorem da_getV : ∀ {vs : List V} {ds : List PyData} {i : Nat} {v : V}, DpAll K H vs ds → vs[i]? = some v → ∃ d, ds[i]? = some d ∧ Dp K H v d
  | _, _, _, _, .nil, e => by simp at e
  | _, _, 0, _, .cons h _, e => by simp at e; subst e; exact ⟨_, rfl, h⟩
  | _, _, i + 1, _, .cons _ a, e => by
    obtain ⟨v, h1, h2⟩ := da_getV (i := i) a (by simpa using e)
    exact ⟨v, by simpa using h1, h2⟩
theorem da_app : ∀ {vs ws : List V} {ds es : List PyData}, DpAll K H vs ds → DpAll K H ws es → DpAll K H (vs ++ ws) (ds ++ es)
  | _, _, _, _, .nil, b => b
  | _, _, _, _, .cons h a, b => .cons h (da_app a b)
theorem da_one (h : Dp K H v d) : DpAll K H [v] [d] := .cons h .nil
theorem da_rev : ∀ {vs : List V} {ds : List PyData}, DpAll K H vs ds → DpAll K H vs.reverse ds.reverse
  | _, _, .nil => .nil
  | _, _, .cons h a => by
    rw [List.reverse_cons, List.reverse_cons]
    exact da_app (da_rev a) (da_one h)
theorem da_ints : ∀ {ns : List Int}, DpAll K H (ns.map V.int) (ns.map PyData.int)
  | [] => .nil
  | _ :: _ => .cons (.int _) da_ints
theorem da_strs : ∀ {ns : List Str}, DpAll K H (ns.map V.str) (ns.map PyData.str)
  | [] => .nil
  | _ :: _ => .cons (.str _) da_strs
theorem dp_tup (h : Dp K H v (.tuple ds)) : ∃ a xs, v = .ref a ∧ SqT K H a xs ∧ DpAll K H xs ds := by
  cases h with
  | tup h a => exact ⟨_, _, rfl, h, a⟩
theorem dp_lst (h : Dp K H v (.list ds)) : ∃ a xs, v = .ref a ∧ SqL K H a xs ∧ DpAll K H xs ds := by
  cases h with
  | lst h a => exact ⟨_, _, rfl, h, a⟩
theorem dp_int {i : Int} (h : Dp K H v (.int i)) : v = .int i := by cases h; rfl
theorem dp_str {i : Str} (h : Dp K H v (.str i)) : v = .str i := by cases h; rfl
theorem dp_bl {i : Bool} (h : Dp K H v (.bool i)) : v = .bl i := by cases h; rfl
theorem dp_non (h : Dp K H v .none) : v = .non := by cases h; rfl
end

/-! ### rules that tell kinds apart by values -/
section
variable {X : Cx}
def rAddA (K : PySem.W.Frag) : R2 := fun x y H Q => (rI0 fun i j => .int (i + j)) x y H Q ∨ (∃ i j, x = .str i ∧ y = .str j ∧ i.length + j.length ≤ sizeLine ∧ Q (.str (i ++ j)) H) ∨ rCat x y H Q ∨ rCatT K x y H Q
theorem opAddA : OpR X (binaryOp .Add) (rAddA X.K) := op_add.or (op_add_str.or (op_cat.or op_catT))
def rMulA : R2 := fun x y H Q => (rI CMul fun i j => .int (i * j)) x y H Q ∨ rRep x y H Q
theorem opMulA : OpR X (binaryOp .Mult) rMulA := op_mul.or op_rep
def rSub : R2 := rI0 fun i j => .int (i - j)
theorem opSub : OpR X (binaryOp .Sub) rSub := op_sub
def rMod : R2 := rI (fun _ j => 0 < j) fun i j => .int (i % j)
theorem opMod : OpR X (binaryOp .Mod) rMod := op_mod
def rDiv : R2 := rI CDivW fun i j => .int (i / j)
theorem opDiv : OpR X (binaryOp .FloorDiv) rDiv := op_fdivW
def rPow : R2 := rI CPow fun i j => .int (i ^ j.toNat)
theorem opPow : OpR X (binaryOp .Pow) rPow := op_pow
def rEqA (K : PySem.W.Frag) : R2 := fun x y H Q => rEq x y H Q ∨ rEqD K x y H Q
theorem opEqA (hu : X.A.units + 64 < cLine) : OpR X (compareOp .Eq) (rEqA X.K) := op_eq.or (op_eqD hu)
def rNeA (K : PySem.W.Frag) : R2 := fun x y H Q => rNe x y H Q ∨ rNeD K x y H Q
theorem opNeA (hu : X.A.units + 64 < cLine) : OpR X (compareOp .NotEq) (rNeA X.K) := op_ne.or (op_neD hu)
def rLt : R2 := rI0 fun i j => .bl (decide (i < j))
theorem opLt : OpR X (compareOp .Lt) rLt := op_lt
def rLe : R2 := rI0 fun i j => .bl (decide (i ≤ j))
theorem opLe : OpR X (compareOp .LtE) rLe := op_le
def rGt : R2 := rI0 fun i j => .bl (decide (j < i))
theorem opGt : OpR X (compareOp .Gt) rGt := op_gt
def rGe : R2 := rI0 fun i j => .bl (decide (j ≤ i))
theorem opGe : OpR X (compareOp .GtE) rGe := op_ge
def rIs : R2 := fun x y H Q => y = .non ∧ Q (.bl (decide (x = .non))) H
theorem opIs : OpR X (compareOp .Is) rIs := op_isN
def rIsNot : R2 := fun x y H Q => y = .non ∧ Q (.bl (!decide (x = .non))) H
theorem opIsNot : OpR X (compareOp .IsNot) rIsNot := op_notN
def rNeg : V → Hp → VK → Prop := rU fun i => .int (-i)
theorem unNeg : UnR X (unaryOp .USub) rNeg := un_neg
/-- truth -/
def tTr (K : PySem.W.Frag) (ta : TE) : TT := fun σ H Q => ta σ H fun x H' => ∃ k, TruV K x H' k ∧ Q k H'
theorem pt_tr {a : Expr} {ta : TE} (ha : PE X a ta) (he : ∀ whole, isTrue a X.env whole = (do let v ← whole; standAt a.pos; holding [v] (truthy v)) := by intro _; rfl) : PT X a (tTr X.K ta) := pt_truth ha he
/-- slices of lists, texts, tuples -/
def rSlA (K : PySem.W.Frag) : V → Option Int → Option Int → Hp → VK → Prop := fun x lo hi H Q => rSlL K x lo hi H Q ∨ rSlS x lo hi H Q ∨ rSlT K x lo hi H Q
theorem slA : SlR X (rSlA X.K) := sl_list.or (sl_str.or sl_tup)
/-- built-ins by name -/
def rLenA (K : PySem.W.Frag) : List V → Hp → VK → Prop := fun xs H Q => ∃ x n, xs = [x] ∧ LenV K x H n ∧ Q (.int n) H
theorem cLen : CallR X (.builtin "len") (rLenA X.K) := call_len
def rAbs : List V → Hp → VK → Prop := fun xs H Q => ∃ i, xs = [.int i] ∧ Q (.int (if i < 0 then -i else i)) H
theorem cAbs : CallR X (.builtin "abs") rAbs := call_abs
def rInt1 : List V → Hp → VK → Prop := fun xs H Q => (∃ i, xs = [.int i] ∧ Q (.int i) H) ∨ ∃ k, xs = [.bl k] ∧ Q (.int (if k then 1 else 0)) H
theorem cInt : CallR X (.type "int") rInt1 := call_int1
def rOrd : List V → Hp → VK → Prop := fun xs H Q => ∃ x, xs = [.str x] ∧ x.length = 1 ∧ Q (.int (x.cps.getD 0 0 : Nat)) H
theorem cOrd : CallR X (.builtin "ord") rOrd := call_ord
def rStr1 : List V → Hp → VK → Prop := fun xs H Q => ∃ i, xs = [.int i] ∧ i.natAbs.log2 < 1920 ∧ Q (.str (toString i)) H
theorem cStr : CallR X (.type "str") rStr1 := call_str_int
def rListA (K : PySem.W.Frag) : List V → Hp → VK → Prop := fun xs H Q => ∃ p ys, xs = [.ref p] ∧ (SqL K H p ys ∨ SqT K H p ys) ∧ ∀ l, H l = none → Q (.ref l) (upd H l (.lst ys))
theorem cList : CallR X (.type "list") (rListA X.K) := call_list_of
def rTupA (K : PySem.W.Frag) : List V → Hp → VK → Prop := fun xs H Q => ∃ p ys, xs = [.ref p] ∧ ((SqL K H p ys ∧ ∀ l, H l = none → Q (.ref l) (upd H l (.tup ys))) ∨ (SqT K H p ys ∧ Q (.ref p) H))
theorem cTup : CallR X (.type "tuple") (rTupA X.K) := call_tuple_of
def rAllA (K : PySem.W.Frag) : List V → Hp → VK → Prop := fun vs H Q => ∃ (a : Addr) (bs : List Bool), vs = [V.ref a] ∧ SqL K H a (bs.map V.bl) ∧ Q (.bl (bs.all id)) H
def rAnyA (K : PySem.W.Frag) : List V → Hp → VK → Prop := fun vs H Q => ∃ (a : Addr) (bs : List Bool), vs = [V.ref a] ∧ SqL K H a (bs.map V.bl) ∧ Q (.bl (bs.any id)) H
theorem cAll (hc : X.calm = true) : CallR X (.builtin "all") (rAllA X.K) := cr_all hc
theorem cAny (hc : X.calm = true) : CallR X (.builtin "any") (rAnyA X.K) := cr_any hc
/-- a module's constants -/
theorem pe_ci {x : Str} {i : Int} {pos : Pos} (hg : Gl X x) (hm : ∃ t, X.mg x = some (.int i t)) (hd : (x == ("__debug__" : Str)) = false := by decide) : PE X (.Name x pos) (tC (.int i)) := by
  obtain ⟨t, hm⟩ := hm
  exact pe_glob hg hm ⟨t, rfl⟩ hd
theorem pe_cs {x z : Str} {pos : Pos} (hg : Gl X x) (hm : ∃ t, X.mg x = some (.str z t)) (hd : (x == ("__debug__" : Str)) = false := by decide) : PE X (.Name x pos) (tC (.str z)) := by
  obtain ⟨t, hm⟩ := hm
  exact pe_glob hg hm ⟨t, rfl⟩ hd
end

/-! ### what is asked of a value that has come (named, so that steps find it) -/
def IsBl (x : V) (H : Hp) (QB : Bool → Hp → Prop) : Prop := ∃ k, x = .bl k ∧ QB k H
def IsTr (K : PySem.W.Frag) (x : V) (H : Hp) (QB : Bool → Hp → Prop) : Prop := ∃ k, TruV K x H k ∧ QB k H
def NewL (xs : List V) (H : Hp) (Q : VK) : Prop := xs.length ≤ sizeLine ∧ ∀ p, H p = none → Q (.ref p) (upd H p (.lst xs))
def NewT (xs : List V) (H : Hp) (Q : VK) : Prop := xs.length ≤ sizeLine ∧ ∀ p, H p = none → Q (.ref p) (upd H p (.tup xs))
def IsPart (x : V) (H : Hp) (QO : Option Int → Hp → Prop) : Prop := ∃ i, x = .int i ∧ QO (some i) H
def IsTy (K : PySem.W.Frag) (T : String) (x : V) (H : Hp) (A : Prop) : Prop := tyV K T x H ∧ A
def IsInt (x : V) (H : Hp) (QI : Int → Hp → Prop) : Prop := ∃ b : Int, x = .int b ∧ QI b H
def IsFld (K : PySem.W.Frag) (f : Str) (x : V) (H : Hp) (Q : VK) : Prop := ∃ a C dx fs v, x = .ref a ∧ H a = some (.ins C dx fs) ∧ Cls K C ∧ NoAttr K C f ∧ fs.lookup f = some v ∧ Q v H
/-! ### steps -/
section
variable {K : PySem.W.Frag} {σ : St} {H H' : Hp} {Q : VK} {QA : List V → Hp → Prop} {QB : Bool → Hp → Prop} {D : Ends} {te ta tb tc : TE} {tt tu : TT} {ts t1 t2 : TS} {tr : TA} {g : TG} {v x y : V} {i j : Int} {n m : Nat} {b : Bool} {r : R2} {a p l : Addr} {xs ys : List V}
theorem w_var {i : Nat} (h : σ[i]? = some (some v)) (k : Q v H) : tVar i σ H Q := ⟨v, h, k⟩
theorem w_c (k : Q v H) : tC v σ H Q := k
theorem w_op (k : ta σ H fun x H1 => tb σ H1 fun y H2 => r x y H2 Q) : tOp r ta tb σ H Q := k
theorem w_un {u : V → Hp → VK → Prop} (k : ta σ H fun x H1 => u x H1 Q) : tUn u ta σ H Q := k
theorem w_cb {u : List V → Hp → VK → Prop} (k : tr σ H fun vs H1 => u vs H1 Q) : tCB u tr σ H Q := k
theorem w_cal {sp : Sp} {E : St → XK} (k : tr σ H fun vs H1 => sp vs H1 Q (E σ)) : tCal sp E tr σ H Q := k
theorem w_nil (k : QA [] H) : tNil σ H QA := k
theorem w_cons (k : ta σ H fun x H1 => tr σ H1 fun xs H2 => QA (x :: xs) H2) : tCons ta tr σ H QA := k
theorem w_lst (k : tr σ H fun xs H1 => NewL xs H1 Q) : tLst tr σ H Q := k
theorem w_tup (k : tr σ H fun xs H1 => NewT xs H1 Q) : tTup tr σ H Q := k
theorem w_newL (hz : xs.length ≤ 1000000) (k : ∀ p H1, H p = none → Ex H H1 → H1 p = some (.lst xs) → Q (.ref p) H1) : NewL xs H Q := ⟨sz_of hz, w_new k⟩
theorem w_newT (hz : xs.length ≤ 1000000) (k : ∀ p H1, H p = none → Ex H H1 → H1 p = some (.tup xs) → Q (.ref p) H1) : NewT xs H Q := ⟨sz_of hz, w_new k⟩
theorem w_if (k : tt σ H fun c H1 => if c = true then ta σ H1 Q else tb σ H1 Q) : tIf tt ta tb σ H Q := k
theorem w_test (k : te σ H fun x H1 => IsBl x H1 QB) : tTest te σ H QB := k
theorem w_tB (k : te σ H fun x H1 => IsBl x H1 QB) : tB te σ H QB := k
theorem w_tTr (k : te σ H fun x H1 => IsTr K x H1 QB) : tTr K te σ H QB := k
theorem w_bl (k : QB b H) : IsBl (.bl b) H QB := ⟨b, rfl, k⟩
theorem w_trB (k : QB b H) : IsTr K (.bl b) H QB := ⟨b, rfl, k⟩
theorem w_trI (k : QB (i != 0) H) : IsTr K (.int i) H QB := ⟨_, rfl, k⟩
theorem w_trN (k : QB false H) : IsTr K .non H QB := ⟨_, rfl, k⟩
theorem w_trL (h : SqL K H a xs) (k : QB (!xs.isEmpty) H) : IsTr K (.ref a) H QB := ⟨_, .inl ⟨xs, h, rfl⟩, k⟩
theorem w_trT (h : SqT K H a xs) (k : QB (!xs.isEmpty) H) : IsTr K (.ref a) H QB := ⟨_, .inr (.inl ⟨xs, h, rfl⟩), k⟩
theorem w_not (k : tt σ H fun c H1 => QB (!c) H1) : tNot tt σ H QB := k
theorem w_and (k : tt σ H fun c H1 => if c = true then tu σ H1 QB else QB false H1) : tAnd tt tu σ H QB := k
theorem w_or (k : tt σ H fun c H1 => if c = true then QB true H1 else tu σ H1 QB) : tOr tt tu σ H QB := k
theorem w_notV (k : ta σ H fun x H1 => IsBl x H1 fun c H2 => Q (.bl (!c)) H2) : tNotV ta σ H Q := k
theorem w_andV (k : ta σ H fun x H1 => IsBl x H1 fun c H2 => if c = true then tb σ H2 Q else Q (.bl false) H2) : tAndV ta tb σ H Q := k
theorem w_orV (k : ta σ H fun x H1 => IsBl x H1 fun c H2 => if c = true then Q (.bl true) H2 else tb σ H2 Q) : tOrV ta tb σ H Q := k
theorem w_chain {r' : R2} (k : ta σ H fun x H1 => tb σ H1 fun y H2 => r x y H2 fun z H3 => IsBl z H3 fun c H5 => if c = true then tc σ H5 fun w' H4 => r' y w' H4 Q else Q (.bl false) H5) : tChain r r' ta tb tc σ H Q := k
-- statements
theorem w_seq (k : t1 { D with nx := t2 D } σ H) : tSeq t1 t2 D σ H := k
theorem w_next (k : D.nx σ H) : tNext D σ H := k
theorem w_nx {n : St → Hp → Prop} {rt : VK} {bk ct : St → Hp → Prop} (k : n σ H) : Ends.nx ⟨n, rt, bk, ct⟩ σ H := k
theorem w_bkE {n : St → Hp → Prop} {rt : VK} {bk ct : St → Hp → Prop} (k : bk σ H) : Ends.bk ⟨n, rt, bk, ct⟩ σ H := k
theorem w_ctE {n : St → Hp → Prop} {rt : VK} {bk ct : St → Hp → Prop} (k : ct σ H) : Ends.ct ⟨n, rt, bk, ct⟩ σ H := k
theorem w_rtE {n : St → Hp → Prop} {rt : VK} {bk ct : St → Hp → Prop} (k : rt v H) : Ends.rt ⟨n, rt, bk, ct⟩ v H := k
theorem w_break (k : D.bk σ H) : tBreak D σ H := k
theorem w_cont (k : D.ct σ H) : tCont D σ H := k
theorem w_asg (k : te σ H fun x H1 => g x σ H1 D.nx) : tAsg te g D σ H := k
theorem w_gName {i : Nat} {QG : St → Hp → Prop} (k : QG (σ.set i (some v)) H) : gName i v σ H QG := k
theorem w_ret (k : te σ H D.rt) : tRet te D σ H := k
theorem w_retN (k : D.rt .non H) : tRetN D σ H := k
theorem w_drop (k : te σ H fun _ H1 => D.nx σ H1) : tDrop te D σ H := k
theorem w_ifS (k : tt σ H fun b H1 => if b = true then t1 D σ H1 else t2 D σ H1) : tIfS tt t1 t2 D σ H := k
theorem w_int {QI : Int → Hp → Prop} (k : QI i H) : IsInt (.int i) H QI := ⟨i, rfl, k⟩
theorem w_augI {i : Nat} {f : Int → Int → Int} {a : Int} (hx : σ[i]? = some (some (.int a))) (k : te σ H fun y H1 => IsInt y H1 fun b H2 => D.nx (σ.set i (some (.int (f a b)))) H2) : tAug i te (ipI f) D σ H := by
  exact ⟨.int a, hx, by
    have e : (fun y H1 => IsInt y H1 fun b H2 => D.nx (σ.set i (some (.int (f a b)))) H2) = fun y H1 => ipI f (.int a) y H1 fun z H2 => D.nx (σ.set i (some z)) H2 := by
      funext y H1
      apply propext
      constructor
      · rintro ⟨b, rfl, q⟩
        exact ⟨a, b, rfl, rfl, q⟩
      · rintro ⟨a', b, e1, rfl, q⟩
        cases e1
        exact ⟨b, rfl, q⟩
    rw [e] at k
    exact k⟩
-- branches
theorem w_dec {c : Prop} [Decidable c] {A B : Prop} (h1 : c → A) (h2 : ¬ c → B) : if decide c = true then A else B := by
  by_cases h : c
  · rw [decide_eq_true h, if_pos rfl]
    exact h1 h
  · rw [decide_eq_false h, if_neg Bool.false_ne_true]
    exact h2 h
theorem w_decN {c : Prop} [Decidable c] {A B : Prop} (h1 : ¬ c → A) (h2 : c → B) : if (!decide c) = true then A else B := by
  by_cases h : c
  · rw [decide_eq_true h]
    exact iteF (h2 h)
  · rw [decide_eq_false h]
    exact iteT (h1 h)
theorem w_bool {A B : Prop} (h1 : b = true → A) (h2 : b = false → B) : if b = true then A else B := by
  cases b with
  | true => exact iteT (h1 rfl)
  | false => exact iteF (h2 rfl)
theorem w_boolN {A B : Prop} (h1 : b = false → A) (h2 : b = true → B) : if (!b) = true then A else B := by
  cases b with
  | true => exact iteF (h2 rfl)
  | false => exact iteT (h1 rfl)
theorem w_yes {c : Bool} {A B : Prop} (h : c = true) (k : A) : if c = true then A else B := by rw [if_pos h]; exact k
theorem w_no {c : Bool} {A B : Prop} (h : c = false) (k : B) : if c = true then A else B := by rw [h]; exact iteF k
-- operations on values
theorem w_addI (k : Q (.int (i + j)) H) : rAddA K (.int i) (.int j) H Q := .inl ⟨i, j, rfl, rfl, k⟩
theorem w_addS {s t : Str} (hz : s.length + t.length ≤ 1000000) (k : Q (.str (s ++ t)) H) : rAddA K (.str s) (.str t) H Q := .inr (.inl ⟨s, t, rfl, rfl, sz_of hz, k⟩)
theorem w_addL (h1 : H a = some (.lst xs)) (h2 : H l = some (.lst ys)) (hz : xs.length + ys.length ≤ 1000000) (k : ∀ p H1, H p = none → Ex H H1 → H1 p = some (.lst (xs ++ ys)) → Q (.ref p) H1) : rAddA K (.ref a) (.ref l) H Q :=
  .inr (.inr (.inl ⟨a, l, xs, ys, rfl, rfl, h1, h2, sz_of hz, w_new k⟩))
theorem w_subI (k : Q (.int (i - j)) H) : rSub (.int i) (.int j) H Q := ⟨i, j, rfl, rfl, k⟩
theorem w_mulI (hc : CMul i j) (k : Q (.int (i * j)) H) : rMulA (.int i) (.int j) H Q := .inl ⟨i, j, rfl, rfl, hc, k⟩
theorem w_modI (hc : 0 < j) (k : Q (.int (i % j)) H) : rMod (.int i) (.int j) H Q := ⟨i, j, rfl, rfl, hc, k⟩
theorem w_divI (hc : 0 < j) (h2 : j.natAbs < 2 ^ 64) (k : Q (.int (i / j)) H) : rDiv (.int i) (.int j) H Q := ⟨i, j, rfl, rfl, wide_div hc h2 (by decide) (by decide), k⟩
theorem w_powI (hc : CPow i j) (k : Q (.int (i ^ j.toNat)) H) : rPow (.int i) (.int j) H Q := ⟨i, j, rfl, rfl, hc, k⟩
theorem w_negI (k : Q (.int (-i)) H) : rNeg (.int i) H Q := ⟨i, rfl, k⟩
theorem w_lt (k : Q (.bl (decide (i < j))) H) : rLt (.int i) (.int j) H Q := ⟨i, j, rfl, rfl, k⟩
theorem w_le (k : Q (.bl (decide (i ≤ j))) H) : rLe (.int i) (.int j) H Q := ⟨i, j, rfl, rfl, k⟩
theorem w_gt (k : Q (.bl (decide (j < i))) H) : rGt (.int i) (.int j) H Q := ⟨i, j, rfl, rfl, k⟩
theorem w_ge (k : Q (.bl (decide (j ≤ i))) H) : rGe (.int i) (.int j) H Q := ⟨i, j, rfl, rfl, k⟩
theorem w_eqI (k : Q (.bl (decide (i = j))) H) : rEqA K (.int i) (.int j) H Q := .inl ⟨rfl, by
  have e : decide (V.int i = V.int j) = decide (i = j) := by simp
  rw [e]; exact k⟩
theorem w_neI (k : Q (.bl (!decide (i = j))) H) : rNeA K (.int i) (.int j) H Q := .inl ⟨rfl, by
  have e : decide (V.int i = V.int j) = decide (i = j) := by simp
  rw [e]; exact k⟩
theorem w_eqS {s t : Str} (k : Q (.bl (decide (s = t))) H) : rEqA K (.str s) (.str t) H Q := .inl ⟨rfl, by
  have e : decide (V.str s = V.str t) = decide (s = t) := by simp
  rw [e]; exact k⟩
theorem w_neS {s t : Str} (k : Q (.bl (!decide (s = t))) H) : rNeA K (.str s) (.str t) H Q := .inl ⟨rfl, by
  have e : decide (V.str s = V.str t) = decide (s = t) := by simp
  rw [e]; exact k⟩
theorem w_isN (k : Q (.bl (decide (x = .non))) H) : rIs x .non H Q := ⟨rfl, k⟩
theorem w_isNotN (k : Q (.bl (!decide (x = .non))) H) : rIsNot x .non H Q := ⟨rfl, k⟩
theorem w_lenL (h : SqL K H a xs) (k : Q (.int (xs.length : Nat)) H) : rLenA K [.ref a] H Q := ⟨_, _, rfl, .inl ⟨xs, h, rfl⟩, k⟩
theorem w_lenT (h : SqT K H a xs) (k : Q (.int (xs.length : Nat)) H) : rLenA K [.ref a] H Q := ⟨_, _, rfl, .inr ⟨xs, h, rfl⟩, k⟩
theorem w_lenS {s : Str} (h : s.length ≤ 1000000) (k : Q (.int (s.length : Nat)) H) : rLenA K [.str s] H Q := ⟨_, s.length, rfl, ⟨sz_of h, rfl⟩, k⟩
theorem w_abs (k : Q (.int (if i < 0 then -i else i)) H) : rAbs [.int i] H Q := ⟨i, rfl, k⟩
theorem w_intI (k : Q (.int i) H) : rInt1 [.int i] H Q := .inl ⟨i, rfl, k⟩
theorem w_intB (k : Q (.int (if b then 1 else 0)) H) : rInt1 [.bl b] H Q := .inr ⟨b, rfl, k⟩
theorem w_list (h : SqL K H a xs) (k : ∀ p H1, H p = none → Ex H H1 → H1 p = some (.lst xs) → Q (.ref p) H1) : rListA K [.ref a] H Q := ⟨a, xs, rfl, .inl h, w_new k⟩
theorem w_listT (h : SqT K H a xs) (k : ∀ p H1, H p = none → Ex H H1 → H1 p = some (.lst xs) → Q (.ref p) H1) : rListA K [.ref a] H Q := ⟨a, xs, rfl, .inr h, w_new k⟩
theorem w_tuple (h : SqL K H a xs) (k : ∀ p H1, H p = none → Ex H H1 → H1 p = some (.tup xs) → Q (.ref p) H1) : rTupA K [.ref a] H Q := ⟨a, xs, rfl, .inl ⟨h, w_new k⟩⟩
theorem w_tupleT (h : SqT K H a xs) (k : Q (.ref a) H) : rTupA K [.ref a] H Q := ⟨a, xs, rfl, .inr ⟨h, k⟩⟩
theorem w_all {bs : List Bool} (h : SqL K H a (bs.map V.bl)) (k : Q (.bl (bs.all id)) H) : rAllA K [.ref a] H Q := ⟨a, bs, rfl, h, k⟩
theorem w_any {bs : List Bool} (h : SqL K H a (bs.map V.bl)) (k : Q (.bl (bs.any id)) H) : rAnyA K [.ref a] H Q := ⟨a, bs, rfl, h, k⟩
-- subscripts
theorem w_ixL (h : SqL K H a xs) (hv : atI xs i = some v) (k : Q v H) : rIx K (.ref a) (.int i) H Q := .inl ⟨a, xs, i, v, rfl, rfl, h, hv, k⟩
theorem w_ixT (h : SqT K H a xs) (hv : atI xs i = some v) (k : Q v H) : rIx K (.ref a) (.int i) H Q := .inr (.inl ⟨a, xs, i, v, rfl, rfl, h, hv, k⟩)
theorem w_ixS {s : Str} {c : Nat} (hz : s.length ≤ 1000000) (hv : atI s.cps.toList i = some c) (k : Q (.str ⟨#[c]⟩) H) : rIx K (.str s) (.int i) H Q := .inr (.inr ⟨s, i, c, rfl, rfl, sz_of hz, hv, k⟩)
theorem w_sl {r : V → Option Int → Option Int → Hp → VK → Prop} {tl th : TO} (k : te σ H fun x H1 => tl σ H1 fun l H2 => th σ H2 fun u H3 => r x l u H3 Q) : tSl r te tl th σ H Q := k
theorem w_noPart {QO : Option Int → Hp → Prop} (k : QO none H) : tNoPart σ H QO := k
theorem w_part {QO : Option Int → Hp → Prop} (k : te σ H fun x H1 => IsPart x H1 QO) : tPart te σ H QO := k
theorem w_partI {QO : Option Int → Hp → Prop} (k : QO (some i) H) : IsPart (.int i) H QO := ⟨i, rfl, k⟩
theorem w_slL {lo hi : Option Int} (h : SqL K H a xs) (k : ∀ p H1, H p = none → Ex H H1 → H1 p = some (.lst (cutV xs lo hi)) → Q (.ref p) H1) : rSlA K (.ref a) lo hi H Q := .inl ⟨a, xs, rfl, h, w_new k⟩
theorem w_slS {lo hi : Option Int} {s : Str} (hz : s.length ≤ 1000000) (k : Q (.str (cutS s lo hi)) H) : rSlA K (.str s) lo hi H Q := .inr (.inl ⟨s, rfl, sz_of hz, k⟩)
-- methods of built-in types
theorem w_bm0 {T : String} {u : V → List V → Hp → VK → Prop} (k : ta σ H fun x H1 => IsTy K T x H1 (u x [] H1 Q)) : tBM0 K T u ta σ H Q := k
theorem w_bm {T : String} {u : V → List V → Hp → VK → Prop} (k : ta σ H fun x H1 => IsTy K T x H1 (tr σ H1 fun xs H2 => u x xs H2 Q)) : tBM K T u ta tr σ H Q := k
theorem w_tyL {A : Prop} (h : H a = some (.lst xs)) (k : A) : IsTy K "list" (.ref a) H A := ⟨.inl ⟨rfl, _, SqL.of h⟩, k⟩
theorem w_tyS {A : Prop} {s : Str} (k : A) : IsTy K "str" (.str s) H A := ⟨rfl, k⟩
theorem w_append (h : H l = some (.lst xs)) (hz : xs.length < 1000000) (k : ∀ H1, Chg H l (.lst (xs ++ [v])) H1 → Q .non H1) : rAppend (.ref l) [v] H Q := ⟨l, xs, v, rfl, rfl, h, sz_lt hz, w_chg k⟩
theorem w_extend (h : H l = some (.lst xs)) (h2 : H a = some (.lst ys)) (hz : xs.length + ys.length ≤ 1000000) (k : ∀ H1, Chg H l (.lst (xs ++ ys)) H1 → Q .non H1) : rExtend (.ref l) [.ref a] H Q := ⟨l, a, xs, ys, rfl, rfl, h, h2, sz_of hz, w_chg k⟩
theorem w_pop (h : H l = some (.lst xs)) (hv : xs[xs.length - 1]? = some v) (k : ∀ H1, Chg H l (.lst xs.dropLast) H1 → Q v H1) : rPop (.ref l) [] H Q := ⟨l, xs, v, rfl, rfl, h, hv, w_chg k⟩
theorem w_sub {to ti : TE} {t : TSet} {QG : St → Hp → Prop} (k : to σ H fun o H1 => ti σ H1 fun i H2 => t o i v H2 fun H3 => QG σ H3) : gSub to ti t v σ H QG := k
theorem w_setL {QH : Hp → Prop} {j : Nat} (h : H l = some (.lst xs)) (hj : ixN xs.length i = some j) (k : ∀ H1, Chg H l (.lst (xs.set j v)) H1 → QH H1) : rSetL (.ref l) (.int i) v H QH := ⟨l, xs, i, j, rfl, rfl, h, hj, w_chgU k⟩
theorem w_gTup {t : TGs} {QG : St → Hp → Prop} (h : SqT K H a xs) (hl : xs.length = n) (k : t xs σ H QG) : gTup K n t (.ref a) σ H QG := ⟨a, xs, rfl, h, hl, k⟩
theorem w_gCons {t : TG} {u : TGs} {QG : St → Hp → Prop} (k : t v σ H fun σ' H' => u xs σ' H' QG) : gCons t u (v :: xs) σ H QG := ⟨v, xs, rfl, k⟩
theorem w_gNil {QG : St → Hp → Prop} (k : QG σ H) : gNil [] σ H QG := ⟨rfl, k⟩
-- fields
theorem w_fld {f : Str} (k : ta σ H fun x H1 => IsFld K f x H1 Q) : tFld K ta f σ H Q := k
end
end Hf

/-! Loops and comprehensions, by what is walked. -/
namespace Hf
open PySem PySem.Spec PyProof.Rows L2

/-! ### what is walked, told by its value -/
def IsIter (K : PySem.W.Frag) (x : V) (H : Hp) (R : It → Hp → Prop) : Prop :=
  (∃ a, x = .ref a ∧ (∃ xs, SqL K H a xs) ∧ R (Itl K a) H) ∨ (∃ a, x = .ref a ∧ (∃ xs, SqT K H a xs) ∧ R (Itt K a) H) ∨ (∃ z, x = .str z ∧ R (Its z) H)
def iAny (K : PySem.W.Frag) (te : TE) : TI := fun σ H R => te σ H fun x H1 => IsIter K x H1 R
theorem pi_any {X : Cx} {tg l : Expr} {tl : TE} (hl : PE X l tl) : PI X tg l (iAny X.K tl) := by
  refine ⟨fun pins s σ H R I h => ?_⟩
  refine thn (hl.run pins s σ H _ I h) fun v s1 ⟨x, H1, I1, r1, q1⟩ => ?_
  rcases q1 with ⟨a, e, ⟨xs, hq⟩, q⟩ | ⟨a, e, ⟨xs, hq⟩, q⟩ | ⟨z, e, q⟩
  · subst e
    cases r1
    obtain ⟨its, rv, p, hz⟩ := I1.list hq
    refine wpAny_pyIter_list p.isList ?_
    refine ⟨s1.heap.objs.size, [s1.heap.objs.size], _, _, H1, rfl, I1.kept (t' := s1.toks) fun b o e => Heap.get?_push_of_some _ e, turn_list a _, ⟨_, Heap.get?_push_size _ rfl, rfl, rfl⟩, fun b hb => ?_, q⟩
    have e : b = s1.heap.objs.size := by simpa using hb
    subst e
    exact I1.fpOk (Nat.le_refl _) (I1.hok.fresh (Nat.le_refl _))
  · subst e
    cases r1
    obtain ⟨its, rv, p, hz⟩ := I1.tuple hq
    refine wpAny_pyIter_tuple (show s1.heap.IsTuple a its.toArray from p) ?_
    refine ⟨s1.heap.objs.size, [s1.heap.objs.size], _, _, H1, rfl, I1.kept (t' := s1.toks) fun b o e => Heap.get?_push_of_some _ e, turn_tuple a _, ⟨_, Heap.get?_push_size _ rfl, rfl, rfl⟩, fun b hb => ?_, q⟩
    have e : b = s1.heap.objs.size := by simpa using hb
    subst e
    exact I1.fpOk (Nat.le_refl _) (I1.hok.fresh (Nat.le_refl _))
  · subst e
    obtain ⟨t, rfl⟩ := r1
    cases ha : z.cps.all (· < 128)
    · exact wpAny_pyIter_wide ha (pi_one (tk := s1.toks) I1 _ (turn_str _ z t "str_iterator" (.inr rfl)) ⟨_, Heap.get?_push_size _ rfl, rfl, rfl⟩ q)
    · exact wpAny_pyIter_ascii ha (pi_one (tk := s1.toks) I1 _ (turn_str _ z t "str_ascii_iterator" (.inl rfl)) ⟨_, Heap.get?_push_size _ rfl, rfl, rfl⟩ q)

/-! ### loops -/
def ForK (J : It) (g : TG) (tb : TS) (D : Ends) (σ : St) (H : Hp) : Prop := ∃ W : Nat → Nat → L2.St → Hp → Prop, (∃ m, W 0 m σ H) ∧ ∀ i m σ H, W i m σ H →
  (J.stop i H ∧ D.nx σ H) ∨ (J.go i H ∧ ∃ N : L2.St → Hp → Prop, (∀ σ' H', N σ' H' → ∃ m', m' < m ∧ W (i + 1) m' σ' H') ∧ ∀ x H', J.yld i H x H' → g x σ H' fun σ2 H2 => tb { D with nx := N, ct := N, bk := D.nx } σ2 H2)
def LcK (J : It) (g : TG) (tt : TT) (te : TE) (vs : List Nat) (σ : St) (H : Hp) (Q : VK) : Prop := ∀ D, H D = none → ∃ W : Nat → Nat → Hp → Prop, (∃ m, W 0 m (upd H D (.lst []))) ∧ ∀ i m H, W i m H →
  (J.stop i H ∧ Q (.ref D) H) ∨ (J.go i H ∧ ∃ Nx : Hp → Prop, (∀ H', Nx H' → ∃ m', m' < m ∧ W (i + 1) m' H') ∧ ∀ x H', J.yld i H x H' → g x (wipe σ vs) H' fun σ2 H2 => wipe σ2 vs = wipe σ vs ∧ tt σ2 H2 fun b H3 =>
    if b = true then te σ2 H3 fun y H4 => ∃ acc, H4 D = some (.lst acc) ∧ acc.length < sizeLine ∧ Nx (upd H4 D (.lst (acc ++ [y]))) else Nx H3)
def IsRng (lo : Int) (vs : List V) (H : Hp) (R : Int → Hp → Prop) : Prop := ∃ j : Int, vs = [.int j] ∧ -(2 ^ 62) ≤ j ∧ j < 2 ^ 62 ∧ R j H
def IsRng2 (vs : List V) (H : Hp) (R : Int → Int → Hp → Prop) : Prop := ∃ i j : Int, vs = [.int i, .int j] ∧ (-(2 ^ 62) ≤ i ∧ i < 2 ^ 62 ∧ -(2 ^ 62) ≤ j ∧ j < 2 ^ 62) ∧ R i j H
def IsEnum (K : PySem.W.Frag) (vs : List V) (H : Hp) (R : It → Hp → Prop) : Prop := ∃ a xs, vs = [.ref a] ∧ SqL K H a xs ∧ R (Ite K a) H
def IsZip (K : PySem.W.Frag) (vs : List V) (H : Hp) (R : It → Hp → Prop) : Prop := ∃ a b xs ys, vs = [.ref a, .ref b] ∧ SqL K H a xs ∧ SqL K H b ys ∧ R (Itz K a b) H
def IsRev (K : PySem.W.Frag) (v : V) (H : Hp) (R : It → Hp → Prop) : Prop := ∃ (a : Addr) (xs : List V), v = .ref a ∧ ((SqL K H a xs ∧ R (Itv K a xs.length) H) ∨ (SqT K H a xs ∧ R (RT.ItvT K a xs.length) H))
section
variable {K : PySem.W.Frag} {σ : St} {H : Hp} {Q : VK} {D : Ends} {wi : TI} {g : TG} {tb : TS} {tt : TT} {te : TE} {ta : TA} {vs : List Nat} {R : It → Hp → Prop} {a b : Addr} {xs ys : List V} {J : It} {i j : Int}
theorem w_for (k : wi σ H fun J H1 => ForK J g tb D σ H1) : tFor wi g tb D σ H := k
theorem w_lc (k : wi σ H fun J H1 => LcK J g tt te vs σ H1 Q) : tLc wi g tt te vs σ H Q := k
theorem w_yes1 {QB : Bool → Hp → Prop} (k : QB true H) : tYes σ H QB := k
theorem w_iAny (k : te σ H fun x H1 => IsIter K x H1 R) : iAny K te σ H R := k
theorem w_iRng1 (k : ta σ H fun vs H1 => IsRng 0 vs H1 fun j H2 => R (Itr 0 j.toNat) H2) : iRng1 ta σ H R := k
theorem w_iRng2 (k : ta σ H fun vs H1 => IsRng2 vs H1 fun i j H2 => R (Itr i (j - i).toNat) H2) : iRng2 ta σ H R := k
theorem w_iEnum (k : ta σ H fun vs H1 => IsEnum K vs H1 R) : iEnum K ta σ H R := k
theorem w_iZip (k : ta σ H fun vs H1 => IsZip K vs H1 R) : iZip K ta σ H R := k
theorem w_iRev (k : te σ H fun v H1 => IsRev K v H1 R) : RT.iRevA K te σ H R := k
theorem w_rng {QI : Int → Hp → Prop} (h1 : -(2 ^ 62) ≤ j) (h2 : j < 2 ^ 62) (k : QI j H) : IsRng 0 [.int j] H QI := ⟨j, rfl, h1, h2, k⟩
theorem w_rng2 {QI : Int → Int → Hp → Prop} (h1 : -(2 ^ 62) ≤ i) (h2 : i < 2 ^ 62) (h3 : -(2 ^ 62) ≤ j) (h4 : j < 2 ^ 62) (k : QI i j H) : IsRng2 [.int i, .int j] H QI := ⟨i, j, rfl, ⟨h1, h2, h3, h4⟩, k⟩
theorem w_itL (h : SqL K H a xs) (k : R (Itl K a) H) : IsIter K (.ref a) H R := .inl ⟨a, rfl, ⟨xs, h⟩, k⟩
theorem w_itT (h : SqT K H a xs) (k : R (Itt K a) H) : IsIter K (.ref a) H R := .inr (.inl ⟨a, rfl, ⟨xs, h⟩, k⟩)
theorem w_itS {z : Str} (k : R (Its z) H) : IsIter K (.str z) H R := .inr (.inr ⟨z, rfl, k⟩)
theorem w_itEn (h : SqL K H a xs) (k : R (Ite K a) H) : IsEnum K [.ref a] H R := ⟨a, xs, rfl, h, k⟩
theorem w_itZ (h : SqL K H a xs) (h2 : SqL K H b ys) (k : R (Itz K a b) H) : IsZip K [.ref a, .ref b] H R := ⟨a, b, xs, ys, rfl, h, h2, k⟩
theorem w_itRL (h : SqL K H a xs) (k : R (Itv K a xs.length) H) : IsRev K (.ref a) H R := ⟨a, xs, rfl, .inl ⟨h, k⟩⟩
theorem w_itRT (h : SqT K H a xs) (k : R (RT.ItvT K a xs.length) H) : IsRev K (.ref a) H R := ⟨a, xs, rfl, .inr ⟨h, k⟩⟩
/-- loops by what holds between two turns -/
theorem w_forR {n : Nat} {lo : Int} (Pv : Nat → St → Hp → Prop) (h0 : Pv 0 σ H) (hs : ∀ i σ H, i < n → Pv i σ H → g (.int (lo + i)) σ H fun σ2 H2 => tb { D with nx := Pv (i + 1), ct := Pv (i + 1), bk := D.nx } σ2 H2) (hd : ∀ σ H, Pv n σ H → D.nx σ H) : ForK (Itr lo n) g tb D σ H :=
  for_it walk_range Pv h0 (fun _ _ _ _ _ => True.intro) (fun i x σ H H' hi p y => by obtain ⟨rfl, rfl⟩ := y; exact hs i σ H' hi p) hd
theorem w_forL (Pv : Nat → St → Hp → Prop) (h0 : Pv 0 σ H) (hG : ∀ i σ H, i ≤ xs.length → Pv i σ H → SqL K H a xs) (hs : ∀ i x σ H, xs[i]? = some x → Pv i σ H → g x σ H fun σ2 H2 => tb { D with nx := Pv (i + 1), ct := Pv (i + 1), bk := D.nx } σ2 H2) (hd : ∀ σ H, Pv xs.length σ H → D.nx σ H) : ForK (Itl K a) g tb D σ H :=
  for_it walk_list Pv h0 hG (fun i x σ H H' hi p y => by obtain ⟨rfl, e⟩ := y; exact hs i x σ H' e p) hd
theorem w_forT (Pv : Nat → St → Hp → Prop) (h0 : Pv 0 σ H) (hG : ∀ i σ H, i ≤ xs.length → Pv i σ H → SqT K H a xs) (hs : ∀ i x σ H, xs[i]? = some x → Pv i σ H → g x σ H fun σ2 H2 => tb { D with nx := Pv (i + 1), ct := Pv (i + 1), bk := D.nx } σ2 H2) (hd : ∀ σ H, Pv xs.length σ H → D.nx σ H) : ForK (Itt K a) g tb D σ H :=
  for_it walk_tup Pv h0 hG (fun i x σ H H' hi p y => by obtain ⟨rfl, e⟩ := y; exact hs i x σ H' e p) hd
theorem w_forS {z : Str} (Pv : Nat → St → Hp → Prop) (h0 : Pv 0 σ H) (hs : ∀ i c σ H, z.cps[i]? = some c → Pv i σ H → g (.str ⟨#[c]⟩) σ H fun σ2 H2 => tb { D with nx := Pv (i + 1), ct := Pv (i + 1), bk := D.nx } σ2 H2) (hd : ∀ σ H, Pv z.cps.size σ H → D.nx σ H) : ForK (Its z) g tb D σ H :=
  for_it walk_str Pv h0 (fun _ _ _ _ _ => True.intro) (fun i x σ H H' hi p y => by obtain ⟨rfl, c, e, rfl⟩ := y; exact hs i c σ H' e p) hd
theorem w_forRev (Pv : Nat → St → Hp → Prop) (h0 : Pv 0 σ H) (hG : ∀ i σ H, i ≤ xs.length → Pv i σ H → SqL K H a xs) (hs : ∀ i x σ H, xs.reverse[i]? = some x → Pv i σ H → g x σ H fun σ2 H2 => tb { D with nx := Pv (i + 1), ct := Pv (i + 1), bk := D.nx } σ2 H2) (hd : ∀ σ H, Pv xs.length σ H → D.nx σ H) : ForK (Itv K a xs.length) g tb D σ H :=
  for_it walk_rev Pv h0 hG (fun i x σ H H' hi p y => by
    obtain ⟨rfl, e⟩ := y
    exact hs i x σ H' (by rw [List.getElem?_reverse hi]; exact e) p) hd
/-- a while by a word that falls -/
def WhT (W : Nat → St → Hp → Prop) (m : Nat) (tb : TS) (D : Ends) (σ : St) (H : Hp) : Prop := ∃ N : L2.St → Hp → Prop, (∀ σ' H', N σ' H' → ∃ m', m' < m ∧ W m' σ' H') ∧ tb { D with nx := N, ct := N, bk := D.nx } σ H
theorem w_whT {W : Nat → St → Hp → Prop} {m : Nat} (k : tb { D with nx := fun σ2 H2 => ∃ m', m' < m ∧ W m' σ2 H2, ct := fun σ2 H2 => ∃ m', m' < m ∧ W m' σ2 H2, bk := D.nx } σ H) : WhT W m tb D σ H := ⟨_, fun _ _ z => z, k⟩
theorem w_while {c : TT} (W : Nat → St → Hp → Prop) (m0 : Nat) (h0 : W m0 σ H) (hs : ∀ m σ' H', W m σ' H' → c σ' H' fun b H1 => if b = true then WhT W m tb D σ' H1 else D.nx σ' H1) : tWhile c tb D σ H := ⟨W, ⟨m0, h0⟩, hs⟩
/-- a comprehension of values: R i is the list behind i turns; D the new list's place -/
def LcV (H : Hp) (R : Nat → List V) (D : Addr) (i : Nat) (y : V) (H4 : Hp) : Prop := ∃ acc, H4 D = some (.lst acc) ∧ acc.length < sizeLine ∧ (Ex H (upd H4 D (.lst (acc ++ [y]))) ∧ (upd H4 D (.lst (acc ++ [y]))) D = some (.lst (R (i + 1))))
def LcN (H : Hp) (R : Nat → List V) (D : Addr) (i : Nat) (H3 : Hp) : Prop := Ex H H3 ∧ H3 D = some (.lst (R (i + 1)))
theorem lcV {H H4 : Hp} {R : Nat → List V} {Dl : Addr} {i : Nat} {y : V} (hD : H Dl = none) (e : Ex H H4) (h : H4 Dl = some (.lst (R i))) (hl : (R i).length < 1000000) (hr : R (i + 1) = R i ++ [y]) : LcV H R Dl i y H4 :=
  ⟨R i, h, sz_lt hl, Ex.mut e hD, by rw [upd_same, hr]⟩
theorem lcN {H H3 : Hp} {R : Nat → List V} {Dl : Addr} {i : Nat} (e : Ex H H3) (h : H3 Dl = some (.lst (R i))) (hr : R (i + 1) = R i) : LcN H R Dl i H3 := ⟨e, by rw [hr]; exact h⟩
theorem w_lcV {n : Nat} {G : Hp → Prop} {Y : Nat → Hp → V → Hp → Prop} (w : Walk J n G Y) (R : Nat → List V) (hR : R 0 = []) (hG : ∀ H1, Ex H H1 → G H1)
    (turn : ∀ Dl i x H1 H1', H Dl = none → i < n → Ex H H1 → H1 Dl = some (.lst (R i)) → Y i H1 x H1' → g x (wipe σ vs) H1' fun σ2 H2 => wipe σ2 vs = wipe σ vs ∧ tt σ2 H2 fun b H3 => if b = true then te σ2 H3 fun y H4 => LcV H R Dl i y H4 else LcN H R Dl i H3)
    (hd : ∀ p H1, H p = none → Ex H H1 → H1 p = some (.lst (R n)) → Q (.ref p) H1) : LcK J g tt te vs σ H Q := fun D hD =>
  lc_it w (fun i H' => Ex H H' ∧ H' D = some (.lst (R i))) ⟨Ex.new hD, by rw [upd_same, hR]⟩ (fun i H' _ q => hG H' q.1) (fun i x H1 H1' hi q y => turn D i x H1 H1' hD hi q.1 q.2 y) (fun H' q => hd D H' hD q.1 q.2)
theorem w_lcVL {R : Nat → List V} (h : SqL K H a xs) (hR : R 0 = [])
    (turn : ∀ Dl i x H1, H Dl = none → xs[i]? = some x → i < xs.length → Ex H H1 → H1 Dl = some (.lst (R i)) → g x (wipe σ vs) H1 fun σ2 H2 => wipe σ2 vs = wipe σ vs ∧ tt σ2 H2 fun b H3 => if b = true then te σ2 H3 fun y H4 => LcV H R Dl i y H4 else LcN H R Dl i H3)
    (hd : ∀ p H1, H p = none → Ex H H1 → H1 p = some (.lst (R xs.length)) → Q (.ref p) H1) : LcK (Itl K a) g tt te vs σ H Q :=
  w_lcV walk_list R hR (fun H1 e => e.l h) (fun Dl i x H1 H1' hD hi e h1 y => by obtain ⟨rfl, e2⟩ := y; exact turn Dl i x H1' hD e2 hi e h1) hd
theorem w_lcVT {R : Nat → List V} (h : SqT K H a xs) (hR : R 0 = [])
    (turn : ∀ Dl i x H1, H Dl = none → xs[i]? = some x → i < xs.length → Ex H H1 → H1 Dl = some (.lst (R i)) → g x (wipe σ vs) H1 fun σ2 H2 => wipe σ2 vs = wipe σ vs ∧ tt σ2 H2 fun b H3 => if b = true then te σ2 H3 fun y H4 => LcV H R Dl i y H4 else LcN H R Dl i H3)
    (hd : ∀ p H1, H p = none → Ex H H1 → H1 p = some (.lst (R xs.length)) → Q (.ref p) H1) : LcK (Itt K a) g tt te vs σ H Q :=
  w_lcV walk_tup R hR (fun H1 e => e.t h) (fun Dl i x H1 H1' hD hi e h1 y => by obtain ⟨rfl, e2⟩ := y; exact turn Dl i x H1' hD e2 hi e h1) hd
theorem w_lcVR {R : Nat → List V} {lo : Int} {n : Nat} (hR : R 0 = [])
    (turn : ∀ Dl i H1, H Dl = none → i < n → Ex H H1 → H1 Dl = some (.lst (R i)) → g (.int (lo + i)) (wipe σ vs) H1 fun σ2 H2 => wipe σ2 vs = wipe σ vs ∧ tt σ2 H2 fun b H3 => if b = true then te σ2 H3 fun y H4 => LcV H R Dl i y H4 else LcN H R Dl i H3)
    (hd : ∀ p H1, H p = none → Ex H H1 → H1 p = some (.lst (R n)) → Q (.ref p) H1) : LcK (Itr lo n) g tt te vs σ H Q :=
  w_lcV walk_range R hR (fun _ _ => True.intro) (fun Dl i x H1 H1' hD hi e h1 y => by obtain ⟨rfl, rfl⟩ := y; exact turn Dl i H1' hD hi e h1) hd
theorem w_lcVS {R : Nat → List V} {z : Str} (hR : R 0 = [])
    (turn : ∀ Dl i c H1, H Dl = none → z.cps[i]? = some c → i < z.cps.size → Ex H H1 → H1 Dl = some (.lst (R i)) → g (.str ⟨#[c]⟩) (wipe σ vs) H1 fun σ2 H2 => wipe σ2 vs = wipe σ vs ∧ tt σ2 H2 fun b H3 => if b = true then te σ2 H3 fun y H4 => LcV H R Dl i y H4 else LcN H R Dl i H3)
    (hd : ∀ p H1, H p = none → Ex H H1 → H1 p = some (.lst (R z.cps.size)) → Q (.ref p) H1) : LcK (Its z) g tt te vs σ H Q :=
  w_lcV walk_str R hR (fun _ _ => True.intro) (fun Dl i x H1 H1' hD hi e h1 y => by obtain ⟨rfl, c, e2, rfl⟩ := y; exact turn Dl i c H1' hD e2 hi e h1) hd
/-- a comprehension of data: R i is what the list behind i turns stands for, by a relation Rp that does not lean on lists that are new here -/
def LcD (H : Hp) (Rp : Nat → List V → Hp → Prop) (D : Addr) (i : Nat) (y : V) (H4 : Hp) : Prop := ∃ acc, H4 D = some (.lst acc) ∧ acc.length < sizeLine ∧ (∃ acc2, (upd H4 D (.lst (acc ++ [y]))) D = some (.lst acc2) ∧ Ex H (upd H4 D (.lst (acc ++ [y]))) ∧ Rp (i + 1) acc2 (upd H4 D (.lst (acc ++ [y]))))
def LcDN (H : Hp) (Rp : Nat → List V → Hp → Prop) (D : Addr) (i : Nat) (H3 : Hp) : Prop := ∃ acc2, H3 D = some (.lst acc2) ∧ Ex H H3 ∧ Rp (i + 1) acc2 H3
theorem lcD {H H4 : Hp} {Rp : Nat → List V → Hp → Prop} {Dl : Addr} {i : Nat} {y : V} {acc : List V} (hD : H Dl = none) (e : Ex H H4) (h : H4 Dl = some (.lst acc)) (hl : acc.length < 1000000) (hr : Rp (i + 1) (acc ++ [y]) (upd H4 Dl (.lst (acc ++ [y])))) : LcD H Rp Dl i y H4 :=
  ⟨acc, h, sz_lt hl, _, upd_same, Ex.mut e hD, hr⟩
theorem lcDN {H H3 : Hp} {Rp : Nat → List V → Hp → Prop} {Dl : Addr} {i : Nat} {acc : List V} (e : Ex H H3) (h : H3 Dl = some (.lst acc)) (hr : Rp (i + 1) acc H3) : LcDN H Rp Dl i H3 := ⟨acc, h, e, hr⟩
theorem w_lcD {n : Nat} {G : Hp → Prop} {Y : Nat → Hp → V → Hp → Prop} (w : Walk J n G Y) (Rp : Nat → List V → Hp → Prop) (h0 : ∀ Dl, H Dl = none → Rp 0 [] (upd H Dl (.lst []))) (hG : ∀ H1, Ex H H1 → G H1)
    (turn : ∀ Dl i x acc H1 H1', H Dl = none → i < n → Ex H H1 → H1 Dl = some (.lst acc) → Rp i acc H1 → Y i H1 x H1' → g x (wipe σ vs) H1' fun σ2 H2 => wipe σ2 vs = wipe σ vs ∧ tt σ2 H2 fun b H3 => if b = true then te σ2 H3 fun y H4 => LcD H Rp Dl i y H4 else LcDN H Rp Dl i H3)
    (hd : ∀ p acc H1, H p = none → Ex H H1 → H1 p = some (.lst acc) → Rp n acc H1 → Q (.ref p) H1) : LcK J g tt te vs σ H Q := fun D hD =>
  lc_it w (fun i H' => ∃ acc, H' D = some (.lst acc) ∧ Ex H H' ∧ Rp i acc H') ⟨[], upd_same, Ex.new hD, h0 D hD⟩ (fun i H' _ ⟨_, _, q, _⟩ => hG H' q) (fun i x H1 H1' hi ⟨acc, h1, e, p⟩ y => turn D i x acc H1 H1' hD hi e h1 p y) (fun H' ⟨acc, h1, e, p⟩ => hd D acc H' hD e h1 p)
end
end Hf

/-! list(reversed(a tuple)): a new list. -/
namespace Hf
open PySem PySem.Spec PyProof.Rows L2 RT
theorem nolen_rt : typeLookup (.type "reversed") "__len__" = pure none := by rw [typeLookup_type, builtinLookup_eq_fast]; kernel_rfl
theorem hint_rt : typeLookup (.type "reversed") "__length_hint__" = pure (some (.builtin "reversed.__length_hint__")) := by rw [typeLookup_type, builtinLookup_eq_fast]; kernel_rfl
theorem type_rt_hint : typeOf (.builtin "reversed.__length_hint__") = pure (.type "method_descriptor") := by show builtinType _ = _; rw [builtinType_eq_fast]; kernel_rfl
theorem slot_rt_hint : Slot "reversed" "__length_hint__" "reversed.__length_hint__" :=
  .of (owner := "reversed") (n := "__length_hint__") hint_rt (by decide +kernel) (by decide +kernel) (by decide +kernel)
    (by first | exact .inl (by decide +kernel) | exact .inr (by decide +kernel)) (by rw [isSubtype_type]; kernel_rfl)
theorem entry_rt_hint : entryFor table "reversed.__length_hint__" = some Builtin.«reversed.__length_hint__» := entryFor_of_tree (by kernel_rfl)
theorem args_rt_hint (a : Value) : argsOk "reversed.__length_hint__" ⟨[a], []⟩ := by
  unfold argsOk; rw [signature?_of (id := "reversed.__length_hint__") (n := ['_', '_', 't', 'n', 'i', 'h', '_', 'h', 't', 'g', 'n', 'e', 'l', '_', '_']) (o := ['d', 'e', 's', 'r', 'e', 'v', 'e', 'r']) (by kernel_rfl) owner_rt]; kernel_rfl
section
variable {prog : Program} {w : World} {A : Around} {E : Value → Shared → Prop} {s : Shared}
theorem walks_rt (hh : A.handled = none) (I t : Addr) (hne : t ≠ I) (items : Array Value) (hsz : items.size ≤ sizeLine) :
    Walks prog w A I [I, t] [I] items.size (fun i v => items[items.size - 1 - i]? = some v) (fun i h => i ≤ items.size ∧ IsRt h I t ((items.size : Int) - 1 - (i : Int)) ∧ IsTup h t items) where
  sub := fun b hb => by simp at hb; simp [hb]
  frame := fun _ _ _ x hk => ⟨x.1, x.2.1.at fun o e => hk I (by simp) o e, let ⟨o, ho, r⟩ := x.2.2; ⟨o, hk t (by simp) o ho, r⟩⟩
  item := fun i s Q E hi x hQ => by
    have e : (items.size : Int) - 1 - (i : Int) = ((items.size - 1 - i : Nat) : Int) := by omega
    have hit := x.2.1
    rw [e] at hit
    have hx : items[items.size - 1 - i]? = some (items[items.size - 1 - i]'(by omega)) := Array.getElem?_eq_getElem (by omega)
    refine next_rt_item hit x.2.2 hx hsz fun h' hit' hs' => ?_
    have e2 : ((items.size - 1 - i : Nat) : Int) - 1 = (items.size : Int) - 1 - ((i + 1 : Nat) : Int) := by omega
    rw [e2] at hit'
    refine hQ _ h' (s.toks + 1) hx ⟨hi, hit', ?_⟩ fun b o hb eo => hs'.extBut b o (fun h => hb (by simp [h])) eo
    obtain ⟨o, ho, r⟩ := x.2.2
    exact ⟨o, (hs'.2 t hne).trans ho, r⟩
  done := fun s Q E x hQ => by
    have e : (items.size : Int) - 1 - (items.size : Int) = -1 := by omega
    have hit := x.2.1
    rw [e] at hit
    exact next_rt_end hh hit fun h' he' => hQ h' s.toks fun b o hb eo => he' b o (fun h => hb (by simp [h])) eo
  self := fun _ _ _ _ x hQ => iter_rt x.2.1 hQ

theorem hint_rt_ok {it t : Addr} {items : Array Value} {Q : Bool → Shared → Prop} (hit : IsRt s.heap it t ((items.size : Int) - 1)) (ht : IsTup s.heap t items) (hsz : items.size ≤ sizeLine)
    (hQ : ∀ tk, s.toks ≤ tk → Q (((items.size : Nat) : Int) != 0) { s with toks := tk }) : wpAny (model prog w) A (Builtin.List.listLengthHint (.ref it)) Q E s := by
  obtain ⟨o, ho, hc, hd⟩ := id hit
  have hl := line63
  have hs : sizeLine = 16777216 := sizeLine_eq
  unfold Builtin.List.listLengthHint
  refine wpAny_bind (wpAny_specialOf hit.typeIs nolen_rt ?_)
  show wpAny _ A (specialOf (Value.ref it) (Str.ofString "__length_hint__") >>= _) _ _ _
  refine wpAny_bind (wpAny_specialOf hit.typeIs hint_rt ?_)
  generalize hid : ("reversed.__length_hint__" : String) = id0
  wp_delta
  rw [show splitId id0 = some ("reversed", "__length_hint__") from by subst hid; decide +kernel]
  subst hid
  refine wpAny_bind (wpAny_isInstance (b := true) hit.typeIs (by rw [isSubtype_type]; kernel_rfl) ?_)
  rw [if_neg (by decide)]
  dsimp only
  rw [if_neg (by decide +kernel)]
  refine wpAny_bind (wpAny_rule ?_)
  refine wpAny_bind ?_
  unfold bindSpecial
  rw [type_rt_hint]
  refine wpAny_bind (wpAny_pure ?_)
  rw [if_pos (by decide)]
  refine wpAny_pure ?_
  dsimp only
  refine wpAny_bind (wpAny_attempt ?_)
  refine wpAny_call_entry slot_rt_hint hit.typeIs entry_rt_hint ?_ (args_rt_hint _)
  unfold Builtin.«reversed.__length_hint__»
  refine wpAny_bind (wpAny_of_eq (a := Value.ref it) rfl ?_)
  refine wpAny_bind (wpAny_field ho hd (x := .ref t) rfl ?_)
  rw [if_neg (show ¬ ((Value.ref t == Value.none) = true) from by simp)]
  dsimp only
  refine wpAny_bind (len_tuple ht (by omega) ?_)
  refine wpAny_bind (wpAny_of_eq (a := some ((items.size : Nat) : Int)) rfl ?_)
  dsimp only
  refine wpAny_bind (wpAny_field (s := { s with toks := s.toks + 1 + 1 }) ho hd (x := rawInt ((items.size : Int) - 1)) rfl ?_)
  show wpAny _ _ (if ((items.size : Nat) : Int) < (items.size : Int) - 1 + 1 then _ else _) _ _ _
  rw [if_neg (by omega)]
  unfold retInt
  refine wpAny_bind (wpAny_mkInt ?_)
  refine wpAny_pure ⟨_, rfl, ?_⟩
  dsimp only
  refine wpAny_bind (wpAny_of_eq (a := some ((items.size : Int) - 1 + 1)) rfl ?_)
  dsimp only
  have e1 : (items.size : Int) - 1 + 1 = (items.size : Nat) := by omega
  rw [e1]
  have hf : Builtin.List.listFitsIndex ((items.size : Nat) : Int) = true := by
    unfold Builtin.List.listFitsIndex
    simp only [Bool.and_eq_true, decide_eq_true_eq]
    omega
  rw [if_neg (by rw [hf]; decide), if_neg (by omega), if_neg (by
    unfold Builtin.List.listTooLong
    simp only [gt_iff_lt, decide_eq_true_eq]
    omega)]
  exact wpAny_pure (hQ _ (by omega))

theorem extend_rt {R : Result → Shared → Prop} {it t S : Addr} {res : Value} {items : Array Value} {c₀ : Nat} (hh : A.handled = none) (hit : IsRt s.heap it t ((items.size : Int) - 1)) (ht : IsTup s.heap t items) (hne : t ≠ it) (hn : items.size ≤ sizeLine)
    (hSi : S ≠ it) (hSt : S ≠ t) (hS : s.heap.get? S = some { cls := .type "list", data := .seq #[] c₀ })
    (hR : ∀ (h' : Heap) (tk : Nat) (acc : Array Value) (c' : Nat), (∀ b o, b ≠ it → b ≠ S → s.heap.get? b = some o → h'.get? b = some o) → h'.get? S = some { cls := .type "list", dict := none, data := .seq acc c', slots := #[] } → ItemsOf (fun i v => items[items.size - 1 - i]? = some v) acc items.size → R (.ok (.ret res)) { s with heap := h', toks := tk }) :
    wpAny (model prog w) A.in1 (Builtin.List.listExtendWith (.ref S) (.ref it) res)
      (fun fin s' => match fin with | .done f => R (.ok f) s' | .again c' => c'.quiet = true ∧ codeAny (model prog w) A c' R s') (fun e s' => R (.error e) s') s := by
  have W := (walks_rt (prog := prog) (w := w) (A := A.in1) hh it t hne items hn).toS
  have hSf : S ∉ [it, t] := by simp only [List.mem_cons, List.not_mem_nil, or_false, not_or]; exact ⟨hSi, hSt⟩
  have h1 : Builtin.List.listSameRef (.ref S) (.ref it) = false := by simp [Builtin.List.listSameRef, hSi]
  have h2 : (Value.type "reversed" == Value.type "list") = false := by decide
  have h3 : (Value.type "reversed" == Value.type "tuple") = false := by decide
  have e0 : ((items.size : Nat) : Int) - 1 - ((0 : Nat) : Int) = (items.size : Int) - 1 := by omega
  unfold Builtin.List.listExtendWith
  refine wpAny_bind (wpAny_typeOf hit.typeIs ?_)
  simp only [h1, h2, h3, Bool.or_false, Bool.false_eq_true, if_false]
  refine wpAny_bind (iter_rt hit ?_)
  refine wpAny_bind (wpAny_holding ?_)
  refine hint_rt_ok hit ht hn fun tk htk => ?_
  have fin : ∀ (h' : Heap) (tk : Nat) (c₁ : Nat), (∀ b o, b ≠ S → s.heap.get? b = some o → h'.get? b = some o) → h'.get? S = some { cls := .type "list", data := .seq #[] c₁ } →
      wpAny (model prog w) A.in1 (again (.builtin "list.extend.loop" ⟨[.ref S, .ref it, res], []⟩)) (fun fin s' => match fin with | .done f => R (.ok f) s' | .again c' => c'.quiet = true ∧ codeAny (model prog w) A c' R s') (fun e s' => R (.error e) s') { s with heap := h', toks := tk } := fun h' tk c₁ k hS' => by
    refine wpAny_pure ⟨plainId_quiet F.plain_extend_loop _, codeAny_extend_loopS W hn _ hSf _ items.size 0 _ _ _ rfl (Nat.zero_le _)
      ⟨Nat.zero_le _, by rw [e0]; exact hit.at fun o e => k it o (Ne.symm hSi) e, let ⟨o, ho, r⟩ := ht; ⟨o, k t o (Ne.symm hSt) ho, r⟩⟩ hS' (ItemsOf.nil _) fun s' acc' c' hm hS'' hacc => ?_⟩
    rw [Moved.eq_with hm]
    refine hR s'.heap s'.toks acc' c' (fun b o hb hb2 e => hm.heap b o (fun hmem => ?_) (k b o hb2 e)) hS'' hacc
    rcases List.mem_cons.mp hmem with e' | hmem
    · exact hb2 e'
    · exact hb (List.mem_singleton.mp hmem)
  cases hz : (((items.size : Nat) : Int) != 0) with
  | false =>
    rw [if_neg (by decide +kernel)]
    exact fin s.heap tk c₀ (fun _ _ _ e => e) hS
  | true =>
    rw [if_pos (by rfl)]
    refine wpAny_bind (wpAny_rule ?_)
    refine wpAny_bind ?_
    show wpAny _ A.in1 (updateSeq S (·.push .none) >>= fun _ => updateSeq S (·.pop)) _ _ _
    refine wpAny_bind (wpAny_updateSeq (s := { s with toks := tk }) hS rfl ?_)
    have hS₂ := Heap.get?_update_self (Obj.mapSeq (·.push Value.none)) hS rfl
    refine wpAny_updateSeq (s := { s with heap := s.heap.update S (Obj.mapSeq (·.push Value.none)), toks := tk }) (hz := by seq_fits) hS₂ rfl ?_
    have hS₃ := Heap.get?_update_self (Obj.mapSeq (·.pop)) hS₂ rfl
    exact fin _ tk _ (fun b o hb e => (Heap.get?_update_other _ _ (Ne.symm hb)).trans ((Heap.get?_update_other _ _ (Ne.symm hb)).trans e)) hS₃
theorem list_init_rt {R : Result → Shared → Prop} {it t S : Addr} {items : Array Value} (hh : A.handled = none) (hit : IsRt s.heap it t ((items.size : Int) - 1)) (ht : IsTup s.heap t items) (hne : t ≠ it) (hn : items.size ≤ sizeLine)
    (hSi : S ≠ it) (hSt : S ≠ t) (hS : s.heap.get? S = some { cls := .type "list", data := .seq #[] })
    (hR : ∀ (h' : Heap) (tk : Nat) (acc : Array Value) (c' : Nat), (∀ b o, b ≠ it → b ≠ S → s.heap.get? b = some o → h'.get? b = some o) → h'.get? S = some { cls := .type "list", dict := none, data := .seq acc c', slots := #[] } → ItemsOf (fun i v => items[items.size - 1 - i]? = some v) acc items.size → R (.ok (.ret .none)) { s with heap := h', toks := tk }) :
    wpAny (model prog w) A.in1 (Builtin.«list.__init__» ⟨[.ref S, .ref it], []⟩)
      (fun fin s' => match fin with | .done f => R (.ok f) s' | .again c' => c'.quiet = true ∧ codeAny (model prog w) A c' R s') (fun e s' => R (.error e) s') s := by
  show wpAny _ A.in1 (do let old ← Builtin.List.listItems (.ref S); Builtin.List.listUpdate (.ref S) (fun _ => #[]); letGo old.toList.reverse; Builtin.List.listExtendWith (.ref S) (.ref it) .none) _ _ s
  refine wpAny_bind ?_
  unfold Builtin.List.listItems
  refine wpAny_bind (wpAny_seqItems hS rfl (wpAny_pure ?_))
  show wpAny _ A.in1 (updateSeq S (fun _ => #[]) >>= fun _ => letGo (#[] : Array Value).toList.reverse >>= fun _ => Builtin.List.listExtendWith (.ref S) (.ref it) .none) _ _ s
  refine wpAny_bind (wpAny_updateSeq hS rfl ?_)
  have hS₂ := Heap.get?_update_self (Obj.mapSeq (fun _ => (#[] : Array Value))) hS rfl
  have oth : ∀ b o, b ≠ S → s.heap.get? b = some o → (s.heap.update S (Obj.mapSeq (fun _ => (#[] : Array Value)))).get? b = some o :=
    fun b o hb e => (Heap.get?_update_other _ _ (Ne.symm hb)).trans e
  refine wpAny_bind (wpAny_letGo ?_)
  refine extend_rt (s := { s with heap := s.heap.update S (Obj.mapSeq (fun _ => (#[] : Array Value))) }) hh (hit.at fun o e => oth it o (Ne.symm hSi) e) (let ⟨o, ho, r⟩ := ht; ⟨o, oth t o (Ne.symm hSt) ho, r⟩) hne hn hSi hSt hS₂ fun h' tk acc c' k h1 hi => ?_
  exact hR h' tk acc c' (fun b o hb hb2 e => k b o hb hb2 (oth b o hb2 e)) h1 hi
theorem call_list_rt {it t : Addr} {items : Array Value} {Q : Value → Shared → Prop} (hh : A.handled = none) (hit : IsRt s.heap it t ((items.size : Int) - 1)) (ht : IsTup s.heap t items) (hne : t ≠ it) (hn : items.size ≤ sizeLine)
    (hQ : ∀ (h' : Heap) (tk : Nat) (acc : Array Value) (c' : Nat), (∀ b o, b ≠ it → s.heap.get? b = some o → h'.get? b = some o) → h'.get? s.heap.objs.size = some { cls := .type "list", dict := none, data := .seq acc c', slots := #[] } → ItemsOf (fun i v => items[items.size - 1 - i]? = some v) acc items.size →
      Q (.ref s.heap.objs.size) { s with heap := h', toks := tk }) : wpAny (model prog w) A (call (.type "list") [.ref it]) Q E s := by
  obtain ⟨oi, hoi, _⟩ := id hit
  obtain ⟨ot, hot, _⟩ := id ht
  refine callType_codes (Q₁ := fun obj s₁ => obj = .ref s.heap.objs.size ∧ s₁ = { s with heap := s.heap.push { cls := .type "list", data := .seq #[] } }) F.called_list (F.typeCall_list_1 _) F.entry_list_init
    (PySem.code_list_new _ ⟨rfl, rfl⟩) fun obj s₁ h₁ => ?_
  obtain ⟨rfl, rfl⟩ := h₁
  have hS : (s.heap.push { cls := .type "list", data := .seq #[] }).get? s.heap.objs.size = some { cls := .type "list", data := .seq #[] } := Heap.get?_push_size _ rfl
  refine ⟨⟨_, hS, rfl⟩, F.args_list_init_2 _ _, ?_⟩
  refine list_init_rt (s := { s with heap := s.heap.push { cls := .type "list", data := .seq #[] } }) hh (hit.at fun o e => Heap.get?_push_of_some _ e) (let ⟨o, ho, r⟩ := ht; ⟨o, Heap.get?_push_of_some _ ho, r⟩) hne hn (Nat.ne_of_gt (Heap.lt_size hoi)) (Nat.ne_of_gt (Heap.lt_size hot)) hS fun h' tk acc c' k h1 hi => ?_
  exact ⟨rfl, hQ h' tk acc c' (fun b o hb e => k b o hb (Nat.ne_of_lt (Heap.lt_size e)) (Heap.get?_push_of_some _ e)) h1 hi⟩
end
/-- list(reversed(x)), x a tuple: a new list -/
def tListRev (K : PySem.W.Frag) (te : TE) : TE := fun σ H Q => te σ H fun v H1 => ∃ (a : Addr) (xs : List V), v = .ref a ∧ SqT K H1 a xs ∧ ∀ q, H1 q = none → Q (.ref q) (upd H1 q (.lst xs.reverse))
section
variable {X : Cx}
theorem pe_listRev {e : Expr} {te : TE} {p p2 pos pos2 : Pos} (hc : X.calm = true) (hg : Gl X "list") (hm : X.mg "list" = none) (hg2 : Gl X "reversed") (hm2 : X.mg "reversed" = none) (he : PE X e te)
    (hs : starEach [e] X.env = (false, eval e X.env) :: starEach [] X.env := by rfl)
    (hs2 : starEach [.Call (.Name "reversed" p2) [e] [] pos2] X.env = (false, eval (.Call (.Name "reversed" p2) [e] [] pos2) X.env) :: starEach [] X.env := by rfl) :
    PE X (.Call (.Name "list" p) [.Call (.Name "reversed" p2) [e] [] pos2] [] pos) (tListRev X.K te) := by
  refine ⟨fun pins s σ H Q I h => ?_⟩
  refine Call_ (ld_blt I hg hm PyProof.Rows.boot_list (PyProof.Rows.callWith_type1 (args_cons (Call_ (ld_blt I hg2 hm2 PyProof.Rows.boot_reversed (PyProof.Rows.callWith_type1 (args_cons (thn (he.run pins s σ H _ I h) fun u s1 ⟨v, H1, I1, r1, q1⟩ => args_nil ?_) hs) hs rfl))) hs2) hs2 rfl))
  obtain ⟨a, xs, ev, hq, q⟩ := q1
  subst ev
  obtain rfl : u = Value.ref a := r1
  obtain ⟨its, rv, p', hz⟩ := I1.tuple hq
  have hl63 := line63
  have hlen := rv.length
  refine call_reversed_tup p' (fun A E Q k => len_tuple p' (by simp only [List.size_toArray]; omega) k) (args_nil ?_)
  have k0 : ∀ b o, s1.heap.get? b = some o → (s1.heap.push (rtObj a ((its.toArray.size : Int) - 1))).get? b = some o := fun b o e => Heap.get?_push_of_some _ e
  have I2 : Inv X pins σ H1 { s1 with heap := s1.heap.push (rtObj a ((its.toArray.size : Int) - 1)), toks := s1.toks + 1 + 1 } := I1.kept (t' := s1.toks + 1 + 1) k0
  obtain ⟨f0, f1, f2, f3, f4, f5⟩ := I1.fpOk (H' := H1) (b := s1.heap.objs.size) (Nat.le_refl _) (I1.hok.fresh (Nat.le_refl _))
  obtain ⟨ol, hol, rl⟩ := id p'
  have hne : a ≠ s1.heap.objs.size := Nat.ne_of_lt (Heap.lt_size hol)
  have hn : its.toArray.size ≤ sizeLine := by rw [List.size_toArray, ← rv.length]; exact hz
  refine call_list_rt (s := { s1 with heap := s1.heap.push (rtObj a ((its.toArray.size : Int) - 1)), toks := s1.toks + 1 + 1 }) (I1.ok.hd hc) ⟨_, Heap.get?_push_size _ rfl, rfl, rfl⟩ ⟨ol, Heap.get?_push_of_some _ hol, rl⟩ hne hn fun h' tk acc c' hk hS hi => ?_
  have k1 : ∀ b o, s1.heap.get? b = some o → h'.get? b = some o := fun b o e => hk b o (Nat.ne_of_lt (Heap.lt_size e)) (k0 b o e)
  refine ⟨.ref (s1.heap.push (rtObj a ((its.toArray.size : Int) - 1))).objs.size, upd H1 (s1.heap.push (rtObj a ((its.toArray.size : Int) - 1))).objs.size (.lst xs.reverse), I1.laid (t' := tk) k1 (by rw [Heap.size_push]; omega) ?_, rfl, q _ (I1.hok.fresh (by rw [Heap.size_push]; omega))⟩
  refine (show ObjOk X.prog X.w _ _ _ (.lst xs.reverse) from ⟨by rw [List.length_reverse]; exact hz, acc.toList, c', vals_rev rv hi, ?_⟩)
  rw [Array.toArray_toList]
  exact hS
end
section
variable {K : PySem.W.Frag} {σ : St} {H : Hp} {Q : VK} {te : TE} {a : Addr} {xs : List V}
def IsLRev (K : PySem.W.Frag) (v : V) (H : Hp) (Q : VK) : Prop := ∃ (a : Addr) (xs : List V), v = .ref a ∧ SqT K H a xs ∧ ∀ q, H q = none → Q (.ref q) (upd H q (.lst xs.reverse))
theorem w_listRev (k : te σ H fun v H1 => IsLRev K v H1 Q) : tListRev K te σ H Q := k
theorem w_lRev (h : SqT K H a xs) (k : ∀ p H1, H p = none → Ex H H1 → H1 p = some (.lst xs.reverse) → Q (.ref p) H1) : IsLRev K (.ref a) H Q := ⟨a, xs, rfl, h, w_new k⟩
end
end Hf

/-! More steps: kinds, comparisons of data, membership, numbers as values, exceptions. -/
namespace Hf
open PySem PySem.Spec PyProof.Rows L2
theorem bt_int : bootBuiltins "int" = some (.type "int") := by decide +kernel
theorem bt_str : bootBuiltins "str" = some (.type "str") := by decide +kernel
theorem bt_bool : bootBuiltins "bool" = some (.type "bool") := by decide +kernel
theorem bt_list : bootBuiltins "list" = some (.type "list") := by decide +kernel
theorem bt_dict : bootBuiltins "dict" = some (.type "dict") := by decide +kernel
theorem bt_tuple : bootBuiltins "tuple" = some (.type "tuple") := by decide +kernel
theorem bt_abs : bootBuiltins "abs" = some (.builtin "abs") := by decide +kernel
theorem bt_ord : bootBuiltins "ord" = some (.builtin "ord") := by decide +kernel
theorem bt_isinstance : bootBuiltins "isinstance" = some (.builtin "isinstance") := by decide +kernel
theorem bt_all : bootBuiltins "all" = some (.builtin "all") := by decide +kernel
theorem bt_any : bootBuiltins "any" = some (.builtin "any") := by decide +kernel
theorem bt_sum : bootBuiltins "sum" = some (.builtin "sum") := by decide +kernel
theorem bt_sorted : bootBuiltins "sorted" = some (.builtin "sorted") := by decide +kernel
theorem bt_ValueError : bootBuiltins "ValueError" = some (.type "ValueError") := by decide +kernel

/-! ### kinds -/
abbrev Kin (T : String) : Prop := T = "int" ∨ T = "bool" ∨ T = "str" ∨ T = "tuple" ∨ T = "list"
theorem kin_int {T : String} (h : Kin T) : kitB "int" T = some (decide (T = "int")) := by rcases h with rfl | rfl | rfl | rfl | rfl <;> decide +kernel
theorem kin_str {T : String} (h : Kin T) : kitB "str" T = some (decide (T = "str")) := by rcases h with rfl | rfl | rfl | rfl | rfl <;> decide +kernel
theorem kin_non {T : String} (h : Kin T) : kitB "NoneType" T = some false := by rcases h with rfl | rfl | rfl | rfl | rfl <;> decide +kernel
theorem kin_bool {T : String} (h : Kin T) : kitB "bool" T = some (decide (T = "bool" ∨ T = "int")) := by rcases h with rfl | rfl | rfl | rfl | rfl <;> decide +kernel
theorem kin_tup {T : String} (h : Kin T) : kitB "tuple" T = some (decide (T = "tuple")) := by rcases h with rfl | rfl | rfl | rfl | rfl <;> decide +kernel
theorem kin_lst {T : String} (h : Kin T) : kitB "list" T = some (decide (T = "list")) := by rcases h with rfl | rfl | rfl | rfl | rfl <;> decide +kernel
section
variable {K : PySem.W.Frag} {H : Hp} {Q : VK} {T A : String} {b : Bool} {x : V} {a : Addr} {xs : List V} {i : Int} {s : Str}
theorem isi_of (ty : TyX K H x (.type A)) (h : kitB A T = some b) (k : Q (.bl b) H) : rIsi K [x, .ty T] H Q := ⟨x, .ty T, _, _, b, rfl, .ty T, ty, kit_ty h, k⟩
theorem sqT_ty (h : SqT K H a xs) : TyX K H (.ref a) (.type "tuple") := by
  rcases h with (h | ⟨o, h⟩) | ⟨o, its, n, h, c, _⟩
  · exact .base (.tup h)
  · exact .fTuple h
  · exact .kTuple h c
theorem sqL_ty (h : SqL K H a xs) : TyX K H (.ref a) (.type "list") := by
  rcases h with (h | ⟨o, h⟩) | ⟨o, its, n, h, c, _⟩
  · exact .base (.lst h)
  · exact .base (.frz h)
  · exact .kList h c
theorem w_isiI (h : Kin T) (k : Q (.bl (decide (T = "int"))) H) : rIsi K [.int i, .ty T] H Q := isi_of (.base (.int i)) (kin_int h) k
theorem w_isiS (h : Kin T) (k : Q (.bl (decide (T = "str"))) H) : rIsi K [.str s, .ty T] H Q := isi_of (.base (.str s)) (kin_str h) k
theorem w_isiN (h : Kin T) (k : Q (.bl false) H) : rIsi K [.non, .ty T] H Q := isi_of (.base .non) (kin_non h) k
theorem w_isiB (h : Kin T) (k : Q (.bl (decide (T = "bool" ∨ T = "int"))) H) : rIsi K [.bl b, .ty T] H Q := isi_of (.base (.bl b)) (kin_bool h) k
theorem w_isiT (h : Kin T) (h2 : SqT K H a xs) (k : Q (.bl (decide (T = "tuple"))) H) : rIsi K [.ref a, .ty T] H Q := isi_of (sqT_ty h2) (kin_tup h) k
theorem w_isiL (h : Kin T) (h2 : SqL K H a xs) (k : Q (.bl (decide (T = "list"))) H) : rIsi K [.ref a, .ty T] H Q := isi_of (sqL_ty h2) (kin_lst h) k
end

/-! ### numbers as values -/
def vN (xs : List Nat) : List V := xs.map fun (x : Nat) => V.int (x : Int)
def dN (xs : List Nat) : List PyData := xs.map fun (x : Nat) => PyData.int (x : Int)
theorem vN_nil : vN [] = [] := rfl
theorem vN_cons (x : Nat) (xs : List Nat) : vN (x :: xs) = V.int (x : Int) :: vN xs := rfl
theorem vN_app (xs ys : List Nat) : vN (xs ++ ys) = vN xs ++ vN ys := List.map_append
theorem vN_len (xs : List Nat) : (vN xs).length = xs.length := List.length_map ..
theorem vN_one (x : Nat) : [V.int (x : Int)] = vN [x] := rfl
theorem vN_take (xs : List Nat) (n : Nat) : (vN xs).take n = vN (xs.take n) := (List.map_take ..).symm
theorem vN_drop (xs : List Nat) (n : Nat) : (vN xs).drop n = vN (xs.drop n) := (List.map_drop ..).symm
theorem vN_rev (xs : List Nat) : (vN xs).reverse = vN xs.reverse := (List.map_reverse ..).symm
theorem vN_get {xs : List Nat} {i : Nat} {x : V} (h : (vN xs)[i]? = some x) : ∃ n, xs[i]? = some n ∧ x = .int (n : Nat) := by
  unfold vN at h
  rw [List.getElem?_map] at h
  cases e : xs[i]? with
  | none => rw [e] at h; cases h
  | some n => rw [e] at h; exact ⟨n, rfl, (Option.some.inj h).symm⟩
theorem vN_at {xs : List Nat} {i n : Nat} (h : xs[i]? = some n) : (vN xs)[i]? = some (.int (n : Nat)) := by
  unfold vN
  rw [List.getElem?_map, h]
  rfl
theorem dN_all {K : PySem.W.Frag} {H : Hp} : ∀ xs : List Nat, DpAll K H (vN xs) (dN xs)
  | [] => .nil
  | _ :: xs => .cons (.int _) (dN_all xs)
theorem dN_depth : ∀ xs : List Nat, PyData.depthAll (dN xs) = 0
  | [] => rfl
  | x :: xs => by
    show max (PyData.depth (.int (x : Int))) (PyData.depthAll (dN xs)) = 0
    rw [dN_depth xs]
    rfl
theorem dN_lay : ∀ xs : List Nat, PyData.canLayAll0 (dN xs) = true
  | [] => rfl
  | x :: xs => by
    show (PyData.canLay0 (.int (x : Int)) && PyData.canLayAll0 (dN xs)) = true
    rw [dN_lay xs]
    rfl
theorem dN_shaped (xs : List Nat) : SeqAt.shaped (.list (dN xs)) = true := by
  unfold SeqAt.shaped
  rw [Bool.and_eq_true]
  refine ⟨by unfold PyData.canLay0; exact dN_lay xs, ?_⟩
  rw [decide_eq_true_eq]
  unfold PyData.depth
  rw [dN_depth]
  decide
theorem dN_eqv : ∀ xs ys : List Nat, PyData.eqvAll (dN xs) (dN ys) = decide (xs = ys)
  | [], [] => rfl
  | [], _ :: _ => rfl
  | _ :: _, [] => rfl
  | x :: xs, y :: ys => by
    show (PyData.eqv (.int (x : Int)) (.int (y : Int)) && PyData.eqvAll (dN xs) (dN ys)) = decide (x :: xs = y :: ys)
    rw [dN_eqv xs ys]
    have e : PyData.eqv (.int (x : Int)) (.int (y : Int)) = decide (x = y) := by
      unfold PyData.eqv
      rw [Bool.eq_iff_iff, beq_iff_eq, decide_eq_true_iff]
      omega
    rw [e, Bool.eq_iff_iff]
    simp
section
variable {K : PySem.W.Frag} {H : Hp} {Q : VK} {a b : Addr} {xs ys : List Nat}
theorem w_eqN (h : SqL K H a (vN xs)) (h2 : SqL K H b (vN ys)) (k : Q (.bl (decide (xs = ys))) H) : rEqA K (.ref a) (.ref b) H Q :=
  .inr ⟨.list (dN xs), .list (dN ys), .lst h (dN_all xs), .lst h2 (dN_all ys), dN_shaped xs, dN_shaped ys, by
    have e : PyData.eqv (.list (dN xs)) (.list (dN ys)) = decide (xs = ys) := by
      unfold PyData.eqv
      exact dN_eqv xs ys
    rw [e]
    exact k⟩
theorem w_neN (h : SqL K H a (vN xs)) (h2 : SqL K H b (vN ys)) (k : Q (.bl (!decide (xs = ys))) H) : rNeA K (.ref a) (.ref b) H Q :=
  .inr ⟨.list (dN xs), .list (dN ys), .lst h (dN_all xs), .lst h2 (dN_all ys), dN_shaped xs, dN_shaped ys, by
    have e : PyData.eqv (.list (dN xs)) (.list (dN ys)) = decide (xs = ys) := by
      unfold PyData.eqv
      exact dN_eqv xs ys
    rw [e]
    exact k⟩
theorem w_eqD {x y : V} {d e : PyData} (h : Dp K H x d) (h2 : Dp K H y e) (s1 : SeqAt.shaped d = true) (s2 : SeqAt.shaped e = true) (k : Q (.bl (PyData.eqv d e)) H) : rEqA K x y H Q := .inr ⟨d, e, h, h2, s1, s2, k⟩
theorem w_neD {x y : V} {d e : PyData} (h : Dp K H x d) (h2 : Dp K H y e) (s1 : SeqAt.shaped d = true) (s2 : SeqAt.shaped e = true) (k : Q (.bl (!PyData.eqv d e)) H) : rNeA K x y H Q := .inr ⟨d, e, h, h2, s1, s2, k⟩
theorem w_in {x : V} {xs : List V} (h : SqL K H a xs) (fx : flatV x = true) (fs : xs.all flatV = true) (k : Q (.bl (inV x xs)) H) : rIn K false x (.ref a) H Q := ⟨a, xs, rfl, .inl h, fx, fs, k⟩
theorem w_inT {x : V} {xs : List V} (h : SqT K H a xs) (fx : flatV x = true) (fs : xs.all flatV = true) (k : Q (.bl (inV x xs)) H) : rIn K false x (.ref a) H Q := ⟨a, xs, rfl, .inr h, fx, fs, k⟩
theorem w_nin {x : V} {xs : List V} (h : SqL K H a xs) (fx : flatV x = true) (fs : xs.all flatV = true) (k : Q (.bl (!inV x xs)) H) : rIn K true x (.ref a) H Q := ⟨a, xs, rfl, .inl h, fx, fs, k⟩
theorem w_ninT {x : V} {xs : List V} (h : SqT K H a xs) (fx : flatV x = true) (fs : xs.all flatV = true) (k : Q (.bl (!inV x xs)) H) : rIn K true x (.ref a) H Q := ⟨a, xs, rfl, .inr h, fx, fs, k⟩
end
theorem cutV_mid {xs : List V} {i j : Nat} (h : i ≤ j) (hj : j ≤ xs.length) : cutV xs (some (i : Int)) (some (j : Int)) = (xs.drop i).take (j - i) := by
  unfold cutV
  rw [HT.sIx_nat, HT.sIx_nat, Nat.min_eq_left (by omega), Nat.min_eq_left (by omega)]
theorem cutV_to {xs : List V} {j : Nat} : cutV xs none (some (j : Int)) = xs.take j := by
  unfold cutV
  rw [HT.sIx_nat]
  show (xs.drop 0).take (min j xs.length - 0) = xs.take j
  rw [List.drop_zero, Nat.sub_zero, List.take_eq_take_iff]
  omega
theorem cutV_from {xs : List V} {i : Nat} : cutV xs (some (i : Int)) none = xs.drop i := by
  unfold cutV
  rw [HT.sIx_nat]
  show (xs.drop (min i xs.length)).take (xs.length - min i xs.length) = xs.drop i
  by_cases h : i ≤ xs.length
  · rw [Nat.min_eq_left h, List.take_of_length_le (by rw [List.length_drop]; omega)]
  · rw [Nat.min_eq_right (by omega), List.drop_of_length_le (Nat.le_refl _), List.drop_of_length_le (by omega), List.take_nil]
-- tuples and what is in them stand while a list is changed
mutual
def nolist : PyData → Bool
  | .tuple ds => nolistAll ds
  | .list _ => false
  | .dict _ => false
  | .none => true
  | .bool _ => true
  | .int _ => true
  | .str _ => true
def nolistAll : List PyData → Bool
  | [] => true
  | d :: ds => nolist d && nolistAll ds
end
theorem sqT_chg {K : PySem.W.Frag} {H H' : Hp} {l a : Addr} {o : HO} {xs ys : List V} (c : Chg H l o H') (hl : H l = some (.lst ys)) (h : SqT K H a xs) : SqT K H' a xs := by
  rcases h with (h | ⟨u, h⟩) | h
  · exact .inl (.inl (c.use (ne_of h hl (by intro z; cases z)) h))
  · exact .inl (.inr ⟨u, c.use (ne_of h hl (by intro z; cases z)) h⟩)
  · exact .inr h
mutual
theorem dp_chg {K : PySem.W.Frag} {H H' : Hp} {l : Addr} {o : HO} {ys : List V} (c : Chg H l o H') (hl : H l = some (.lst ys)) : ∀ {d : PyData} {v : V}, nolist d = true → Dp K H v d → Dp K H' v d
  | .none, _, _, .non => .non
  | .bool _, _, _, .bl b => .bl b
  | .int _, _, _, .int i => .int i
  | .str _, _, _, .str x => .str x
  | .list _, _, n, _ => by unfold nolist at n; cases n
  | .dict _, _, n, _ => by unfold nolist at n; cases n
  | .tuple ds, _, n, .tup h a => .tup (sqT_chg c hl h) (dp_chgAll c hl (by unfold nolist at n; exact n) a)
theorem dp_chgAll {K : PySem.W.Frag} {H H' : Hp} {l : Addr} {o : HO} {ys : List V} (c : Chg H l o H') (hl : H l = some (.lst ys)) : ∀ {ds : List PyData} {vs : List V}, nolistAll ds = true → DpAll K H vs ds → DpAll K H' vs ds
  | [], _, _, .nil => .nil
  | d :: ds, _, n, .cons h a => by
    unfold nolistAll at n
    rw [Bool.and_eq_true] at n
    exact .cons (dp_chg c hl n.1 h) (dp_chgAll c hl n.2 a)
end
theorem dp_upd {K : PySem.W.Frag} {H : Hp} {l : Addr} {o : HO} {ys : List V} (hl : H l = some (.lst ys)) {d : PyData} {v : V} (n : nolist d = true) (h : Dp K H v d) : Dp K (upd H l o) v d := dp_chg .of hl n h
theorem dp_updAll {K : PySem.W.Frag} {H : Hp} {l : Addr} {o : HO} {ys : List V} (hl : H l = some (.lst ys)) {ds : List PyData} {vs : List V} (n : nolistAll ds = true) (h : DpAll K H vs ds) : DpAll K (upd H l o) vs ds := dp_chgAll .of hl n h
theorem nolistAll_app : ∀ {ds es : List PyData}, nolistAll (ds ++ es) = (nolistAll ds && nolistAll es)
  | [], es => by rw [List.nil_append]; unfold nolistAll; rw [Bool.true_and]
  | d :: ds, es => by
    rw [List.cons_append]
    show (nolist d && nolistAll (ds ++ es)) = ((nolist d && nolistAll ds) && nolistAll es)
    rw [nolistAll_app, Bool.and_assoc]
end Hf

/-! Kinds asked, each with its answer; errors caught and asked; texts joined. -/
namespace Hf
open PySem PySem.Spec PyProof.Rows L2
theorem kin1 : Kin "int" := .inl rfl
theorem kin2 : Kin "bool" := .inr (.inl rfl)
theorem kin3 : Kin "str" := .inr (.inr (.inl rfl))
theorem kin4 : Kin "tuple" := .inr (.inr (.inr (.inl rfl)))
theorem kin5 : Kin "list" := .inr (.inr (.inr (.inr rfl)))
section
variable {K : PySem.W.Frag} {H : Hp} {Q : VK} {b : Bool} {a : Addr} {xs : List V} {i : Int} {s : Str}
theorem isI_int (k : Q (.bl true) H) : rIsi K [.int i, .ty "int"] H Q := w_isiI kin1 k
theorem isI_bool (k : Q (.bl false) H) : rIsi K [.int i, .ty "bool"] H Q := w_isiI kin2 k
theorem isI_str (k : Q (.bl false) H) : rIsi K [.int i, .ty "str"] H Q := w_isiI kin3 k
theorem isI_tuple (k : Q (.bl false) H) : rIsi K [.int i, .ty "tuple"] H Q := w_isiI kin4 k
theorem isI_list (k : Q (.bl false) H) : rIsi K [.int i, .ty "list"] H Q := w_isiI kin5 k
theorem isS_int (k : Q (.bl false) H) : rIsi K [.str s, .ty "int"] H Q := w_isiS kin1 k
theorem isS_bool (k : Q (.bl false) H) : rIsi K [.str s, .ty "bool"] H Q := w_isiS kin2 k
theorem isS_str (k : Q (.bl true) H) : rIsi K [.str s, .ty "str"] H Q := w_isiS kin3 k
theorem isS_tuple (k : Q (.bl false) H) : rIsi K [.str s, .ty "tuple"] H Q := w_isiS kin4 k
theorem isS_list (k : Q (.bl false) H) : rIsi K [.str s, .ty "list"] H Q := w_isiS kin5 k
theorem isN_int (k : Q (.bl false) H) : rIsi K [.non, .ty "int"] H Q := w_isiN kin1 k
theorem isN_bool (k : Q (.bl false) H) : rIsi K [.non, .ty "bool"] H Q := w_isiN kin2 k
theorem isN_str (k : Q (.bl false) H) : rIsi K [.non, .ty "str"] H Q := w_isiN kin3 k
theorem isN_tuple (k : Q (.bl false) H) : rIsi K [.non, .ty "tuple"] H Q := w_isiN kin4 k
theorem isN_list (k : Q (.bl false) H) : rIsi K [.non, .ty "list"] H Q := w_isiN kin5 k
theorem isB_int (k : Q (.bl true) H) : rIsi K [.bl b, .ty "int"] H Q := w_isiB kin1 k
theorem isB_bool (k : Q (.bl true) H) : rIsi K [.bl b, .ty "bool"] H Q := w_isiB kin2 k
theorem isB_str (k : Q (.bl false) H) : rIsi K [.bl b, .ty "str"] H Q := w_isiB kin3 k
theorem isB_tuple (k : Q (.bl false) H) : rIsi K [.bl b, .ty "tuple"] H Q := w_isiB kin4 k
theorem isB_list (k : Q (.bl false) H) : rIsi K [.bl b, .ty "list"] H Q := w_isiB kin5 k
theorem isT_int (h2 : SqT K H a xs) (k : Q (.bl false) H) : rIsi K [.ref a, .ty "int"] H Q := w_isiT kin1 h2 k
theorem isT_bool (h2 : SqT K H a xs) (k : Q (.bl false) H) : rIsi K [.ref a, .ty "bool"] H Q := w_isiT kin2 h2 k
theorem isT_str (h2 : SqT K H a xs) (k : Q (.bl false) H) : rIsi K [.ref a, .ty "str"] H Q := w_isiT kin3 h2 k
theorem isT_tuple (h2 : SqT K H a xs) (k : Q (.bl true) H) : rIsi K [.ref a, .ty "tuple"] H Q := w_isiT kin4 h2 k
theorem isT_list (h2 : SqT K H a xs) (k : Q (.bl false) H) : rIsi K [.ref a, .ty "list"] H Q := w_isiT kin5 h2 k
theorem isL_int (h2 : SqL K H a xs) (k : Q (.bl false) H) : rIsi K [.ref a, .ty "int"] H Q := w_isiL kin1 h2 k
theorem isL_bool (h2 : SqL K H a xs) (k : Q (.bl false) H) : rIsi K [.ref a, .ty "bool"] H Q := w_isiL kin2 h2 k
theorem isL_str (h2 : SqL K H a xs) (k : Q (.bl false) H) : rIsi K [.ref a, .ty "str"] H Q := w_isiL kin3 h2 k
theorem isL_tuple (h2 : SqL K H a xs) (k : Q (.bl false) H) : rIsi K [.ref a, .ty "tuple"] H Q := w_isiL kin4 h2 k
theorem isL_list (h2 : SqL K H a xs) (k : Q (.bl true) H) : rIsi K [.ref a, .ty "list"] H Q := w_isiL kin5 h2 k
theorem isN_I (k : Q (.bl false) H) : rIs (.int i) .non H Q := w_isN (by rw [show decide (V.int i = V.non) = false from by simp]; exact k)
theorem isN_S (k : Q (.bl false) H) : rIs (.str s) .non H Q := w_isN (by rw [show decide (V.str s = V.non) = false from by simp]; exact k)
theorem isN_B (k : Q (.bl false) H) : rIs (.bl b) .non H Q := w_isN (by rw [show decide (V.bl b = V.non) = false from by simp]; exact k)
theorem isN_R (k : Q (.bl false) H) : rIs (.ref a) .non H Q := w_isN (by rw [show decide (V.ref a = V.non) = false from by simp]; exact k)
theorem isN_N (k : Q (.bl true) H) : rIs .non .non H Q := w_isN k
theorem isNot_I (k : Q (.bl true) H) : rIsNot (.int i) .non H Q := w_isNotN (by rw [show decide (V.int i = V.non) = false from by simp]; exact k)
theorem isNot_S (k : Q (.bl true) H) : rIsNot (.str s) .non H Q := w_isNotN (by rw [show decide (V.str s = V.non) = false from by simp]; exact k)
theorem isNot_B (k : Q (.bl true) H) : rIsNot (.bl b) .non H Q := w_isNotN (by rw [show decide (V.bl b = V.non) = false from by simp]; exact k)
theorem isNot_R (k : Q (.bl true) H) : rIsNot (.ref a) .non H Q := w_isNotN (by rw [show decide (V.ref a = V.non) = false from by simp]; exact k)
theorem isNot_N (k : Q (.bl false) H) : rIsNot .non .non H Q := w_isNotN k
theorem w_ord1 {c : Nat} (k : Q (.int (c : Nat)) H) : rOrd [.str ⟨#[c]⟩] H Q := ⟨⟨#[c]⟩, rfl, rfl, k⟩
theorem joinL_ones : ∀ xs : List Nat, TL.joinL [] (xs.map fun c => [c]) = xs
  | [] => rfl
  | [_] => rfl
  | x :: y :: r => congrArg (x :: ·) (joinL_ones (y :: r))
theorem join_ones (xs : List Nat) : Txt.join ⟨#[]⟩ (xs.map fun c => (⟨#[c]⟩ : Str)) = SX.S xs := by
  have e := SX.join_S [] (xs.map fun c => [c])
  rw [joinL_ones, List.map_map] at e
  exact e
theorem w_popC {l : Addr} {x : V} (h : H l = some (.lst (xs ++ [x]))) (k : ∀ H1, Chg H l (.lst xs) H1 → Q x H1) : rPop (.ref l) [] H Q := by
  refine w_pop h (v := x) ?_ fun H1 c => k H1 ?_
  · rw [List.length_append, List.length_singleton, Nat.add_sub_cancel, List.getElem?_append_right (Nat.le_refl _), Nat.sub_self]
    rfl
  · rw [List.dropLast_concat] at c
    exact c
theorem da_split : ∀ {us ws : List V} {ds : List PyData}, DpAll K H (us ++ ws) ds → ∃ ds1 ds2, ds = ds1 ++ ds2 ∧ DpAll K H us ds1 ∧ DpAll K H ws ds2
  | [], ws, ds, h => ⟨[], ds, rfl, .nil, h⟩
  | u :: us, ws, _, .cons h a => by
    obtain ⟨ds1, ds2, e, a1, a2⟩ := da_split (us := us) a
    exact ⟨_ :: ds1, ds2, by rw [e]; rfl, .cons h a1, a2⟩
theorem da_snoc {us : List V} {x : V} {ds : List PyData} (h : DpAll K H (us ++ [x]) ds) : ∃ ds0 d, ds = ds0 ++ [d] ∧ DpAll K H us ds0 ∧ Dp K H x d := by
  obtain ⟨ds1, ds2, e, a1, a2⟩ := da_split h
  cases a2 with
  | cons h2 a3 =>
    cases a3
    exact ⟨ds1, _, e, a1, h2⟩
theorem vN_atI {ns : List Nat} {i n : Nat} (h : ns[i]? = some n) : atI (vN ns) (i : Int) = some (.int (n : Int)) := by
  obtain ⟨hi, _⟩ := List.getElem?_eq_some_iff.mp h
  unfold atI ixN
  rw [if_pos (by omega), vN_len, if_pos (by omega), Option.bind_some, Int.toNat_natCast]
  exact vN_at h
theorem w_ixN {ns : List Nat} {j n : Nat} (h : SqL K H a (vN ns)) (hz : i = (j : Int)) (hx : ns[j]? = some n) (k : Q (.int (n : Int)) H) : rIx K (.ref a) (.int i) H Q := w_ixL h (by rw [hz]; exact vN_atI hx) k
theorem atI_nat {α : Type} {zs : List α} {j : Nat} {v : α} (h : zs[j]? = some v) : atI zs (j : Int) = some v := by
  obtain ⟨hi, _⟩ := List.getElem?_eq_some_iff.mp h
  unfold atI ixN
  rw [if_pos (by omega), if_pos (by omega), Option.bind_some, Int.toNat_natCast]
  exact h
theorem atI_last {α : Type} {zs : List α} {v : α} : atI (zs ++ [v]) (-1) = some v := by
  unfold atI ixN
  rw [if_neg (by omega), List.length_append, List.length_singleton, if_pos (by omega), Option.bind_some, show ((-1 : Int) + ((zs.length + 1 : Nat) : Int)).toNat = zs.length by omega]
  rw [List.getElem?_append_right (Nat.le_refl _), Nat.sub_self]
  rfl
theorem w_snoc {α : Type} {zs : List α} {z : α} {A B : Prop} (k : A) : if (!(zs ++ [z]).isEmpty) = true then A else B := by rw [show (zs ++ [z]).isEmpty = false by simp]; exact k
theorem w_snocN {α : Type} {zs : List α} {z : α} {A B : Prop} (k : B) : if (!(!(zs ++ [z]).isEmpty)) = true then A else B := by rw [show (zs ++ [z]).isEmpty = false by simp]; exact k
theorem w_conz {α : Type} {zs : List α} {z : α} {A B : Prop} (k : A) : if (!(z :: zs).isEmpty) = true then A else B := k
theorem w_conzN {α : Type} {zs : List α} {z : α} {A B : Prop} (k : B) : if (!(!(z :: zs).isEmpty)) = true then A else B := k
theorem w_nilz {α : Type} {A B : Prop} (k : B) : if (!([] : List α).isEmpty) = true then A else B := k
theorem w_nilzN {α : Type} {A B : Prop} (k : A) : if (!(!([] : List α).isEmpty)) = true then A else B := k
theorem w_nt {A B : Prop} (k : A) : if (!false) = true then A else B := k
theorem w_nf {A B : Prop} (k : B) : if (!true) = true then A else B := k
def IsJoin (K : PySem.W.Frag) (x : V) (xs : List V) (H : Hp) (Q : VK) : Prop := ∃ a p, ∃ ys : List Str, x = .str a ∧ xs = [.ref p] ∧ (SqL K H p (ys.map V.str) ∨ SqT K H p (ys.map V.str)) ∧ (ys.map (·.length)).sum + ys.length * a.length ≤ 16777216 ∧ Q (.str (Txt.join a ys)) H
theorem w_join {z : Str} {p : Addr} {ys : List Str} (h : SqL K H p (ys.map V.str)) (hz : (ys.map (·.length)).sum + ys.length * z.length ≤ 16777216) (k : Q (.str (Txt.join z ys)) H) : IsJoin K (.str z) [.ref p] H Q := ⟨z, p, ys, rfl, rfl, .inl h, hz, k⟩
end
section
variable {X : Cx}
theorem mtJoin : MtR X "str.join" (fun x xs H Q => IsJoin X.K x xs H Q) := mt_join
/-- a block under a premise that the reading tells -/
theorem pss_if {A : Prop} {b : List Stmt} {t : TS} (h : A → PSs X b t) : PSs X b (fun D σ H => A ∧ t D σ H) :=
  ⟨fun pins s σ H D I q => (h q.1).run pins s σ H D I q.2⟩
theorem call_isE2 {a D : Addr} {oe : Obj} {pn : List (Addr × Obj)} {cls : Value} {d : Option Addr} (C : ExcC X.K D) (hc : cls = .ref D ∧ d = none) (hz : Zc cls d oe) (hf : ∃ vs, oe.data = .fields vs) : CallR (X.suite a ((a, oe) :: pn)) (.builtin "isinstance") (rIsE X.K D a) := by
  obtain ⟨rfl, rfl⟩ := hc
  exact call_isE C hz hf
end
section
variable {K : PySem.W.Frag} {H : Hp} {Q : VK} {b : Bool} {a D C : Addr} {T : String}
theorem isE_cls (h : PySem.W.kitOne K (.ref D) (.ref C) = some b) (k : Q (.bl b) H) : rIsE K D a [.ref a, .ref C] H Q := ⟨.ref C, .ref C, b, rfl, fun u r => r, h, k⟩
theorem isE_ty (h : PySem.W.kitOne K (.ref D) (.type T) = some b) (k : Q (.bl b) H) : rIsE K D a [.ref a, .ty T] H Q := ⟨.ty T, .type T, b, rfl, fun u r => r, h, k⟩
end
end Hf

/-! What the laws' own small defs promise: numbers drawn, a box of digits. -/
namespace Hf
open PySem PySem.Spec PyProof.Rows L2
/-- a new list of these is handed back, all else stands -/
def RetL (xs : List V) (H : Hp) (Q : VK) : Prop := ∀ p H', Ex H H' → H p = none → H' p = some (.lst xs) → Q (.ref p) H'
/-- the box at b holds one number and may have been changed, all else stands -/
structure Bx (b : Addr) (H H' : Hp) : Prop where
  at_ : ∃ y : Int, H' b = some (.lst [.int y])
  ke : ∀ a o, a ≠ b → H a = some o → H' a = some o
theorem Bx.refl {b : Addr} {H : Hp} {y : Int} (h : H b = some (.lst [.int y])) : Bx b H H := ⟨⟨y, h⟩, fun _ _ _ z => z⟩
theorem Bx.ext {b : Addr} {H H1 H2 : Hp} (h : Bx b H H1) (e : Ex H1 H2) : Bx b H H2 := by
  obtain ⟨⟨y, hy⟩, k⟩ := h
  exact ⟨⟨y, e.use hy⟩, fun a o n z => e.use (k a o n z)⟩
theorem Bx.trans {b : Addr} {H H1 H2 : Hp} (h : Bx b H H1) (e : Bx b H1 H2) : Bx b H H2 := ⟨e.at_, fun a o n z => e.ke a o n (h.ke a o n z)⟩
theorem Bx.chg {b : Addr} {H H1 H2 : Hp} {y : Int} (h : Bx b H H1) (c : Chg H1 b (.lst [.int y]) H2) : Bx b H H2 := ⟨⟨y, c.at_⟩, fun a o n z => c.use n (h.ke a o n z)⟩
theorem Bx.ex {b : Addr} {H0 H H1 : Hp} (h : Bx b H H1) (e : Ex H0 H) (hb : H0 b = none) : Ex H0 H1 := fun a o z => h.ke a o (ne_of_none z hb) (e a o z)
/-- (script, k): some number -/
def spNumber (K : PySem.W.Frag) : Sp := fun vs H Q _ => ∃ (a : Addr) (ns : List Int) (k : Nat), vs = [.ref a, .int (k : Int)] ∧ SqL K H a (ns.map V.int) ∧ ∀ n : Int, Q (.int n) H
/-- (box, size): a digit below size; the box is changed -/
def spTake : Sp := fun vs H Q _ => ∃ (b : Addr) (x : Int) (m : Nat), vs = [.ref b, .int (m : Int)] ∧ H b = some (.lst [.int x]) ∧ 0 < m ∧ m ≤ 2 ^ 62 ∧ ∀ (r : Nat) (y : Int) H1, r < m → Chg H b (.lst [.int y]) H1 → Q (.int (r : Int)) H1
theorem da_vInt {ns : List Int} {i : Nat} {v : V} (h : (ns.map V.int)[i]? = some v) : ∃ n, v = .int n := by
  rw [List.getElem?_map] at h
  cases e : ns[i]? with
  | none => rw [e] at h; cases h
  | some n => rw [e] at h; exact ⟨n, (Option.some.inj h).symm⟩
theorem int_at {ns : List Int} {i : Int} (h0 : 0 ≤ i) (h : i < ns.length) : ∃ n, atI (ns.map V.int) i = some (.int n) := by
  obtain ⟨j, rfl⟩ : ∃ j : Nat, i = (j : Int) := ⟨i.toNat, by omega⟩
  have hj : j < ns.length := by omega
  refine ⟨ns[j], atI_nat ?_⟩
  rw [List.getElem?_map, List.getElem?_eq_getElem hj]
  rfl
end Hf

/-! The rules, told with the written part's own name, so that they hold in blocks of comprehensions too. -/
namespace Hf
open PySem PySem.Spec PyProof.Rows L2
section
variable {X : Cx} {K : PySem.W.Frag}
theorem asK (F : PySem.W.Frag → TE) {e : Expr} (h : PE X e (F X.K)) (hK : X.K = K := by rfl) : PE X e (F K) := by subst hK; exact h
theorem asKI (F : PySem.W.Frag → TI) {tg e : Expr} (h : PI X tg e (F X.K)) (hK : X.K = K := by rfl) : PI X tg e (F K) := by subst hK; exact h
theorem asKT (F : PySem.W.Frag → TT) {e : Expr} (h : PT X e (F X.K)) (hK : X.K = K := by rfl) : PT X e (F K) := by subst hK; exact h
theorem asKG (F : PySem.W.Frag → TG) {e : Expr} (h : PG X e (F X.K)) (hK : X.K = K := by rfl) : PG X e (F K) := by subst hK; exact h
theorem asKS (F : PySem.W.Frag → TS) {e : Stmt} (h : PS X e (F X.K)) (hK : X.K = K := by rfl) : PS X e (F K) := by subst hK; exact h
theorem opAddK (hK : X.K = K := by rfl) : OpR X (binaryOp .Add) (rAddA K) := by subst hK; exact opAddA
theorem opEqK (hu : X.A.units + 64 < cLine) (hK : X.K = K := by rfl) : OpR X (compareOp .Eq) (rEqA K) := by subst hK; exact opEqA hu
theorem opNeK (hu : X.A.units + 64 < cLine) (hK : X.K = K := by rfl) : OpR X (compareOp .NotEq) (rNeA K) := by subst hK; exact opNeA hu
theorem opInK (hK : X.K = K := by rfl) : OpR X (compareOp .In) (rIn K false) := by subst hK; exact op_in_seq
theorem opNotInK (hK : X.K = K := by rfl) : OpR X (compareOp .NotIn) (rIn K true) := by subst hK; exact op_notIn_seq
theorem cLenK (hK : X.K = K := by rfl) : CallR X (.builtin "len") (rLenA K) := by subst hK; exact cLen
theorem cListK (hK : X.K = K := by rfl) : CallR X (.type "list") (rListA K) := by subst hK; exact cList
theorem cTupK (hK : X.K = K := by rfl) : CallR X (.type "tuple") (rTupA K) := by subst hK; exact cTup
theorem cAllK (hc : X.calm = true) (hK : X.K = K := by rfl) : CallR X (.builtin "all") (rAllA K) := by subst hK; exact cAll hc
theorem cAnyK (hc : X.calm = true) (hK : X.K = K := by rfl) : CallR X (.builtin "any") (rAnyA K) := by subst hK; exact cAny hc
theorem cIsiK (hK : X.K = K := by rfl) : CallR X (.builtin "isinstance") (rIsi K) := by subst hK; exact call_isi
theorem ixK (hK : X.K = K := by rfl) : IxR X (rIx K) := by subst hK; exact ix_seq
theorem slK (hK : X.K = K := by rfl) : SlR X (rSlA K) := by subst hK; exact slA
theorem mtJoinK (hK : X.K = K := by rfl) : MtR X "str.join" (fun x xs H Q => IsJoin K x xs H Q) := by subst hK; exact mtJoin
theorem trK {a : Expr} {ta : TE} (ha : PE X a ta) (hK : X.K = K := by rfl) (he : ∀ whole, isTrue a X.env whole = (do let v ← whole; standAt a.pos; holding [v] (truthy v)) := by intro _; rfl) : PT X a (tTr K ta) := by subst hK; exact pt_tr ha he
theorem anyK {tg l : Expr} {tl : TE} (hl : PE X l tl) (hK : X.K = K := by rfl) : PI X tg l (iAny K tl) := by subst hK; exact pi_any hl
theorem fldK {e : Expr} {f : Str} {pos : Pos} {ta : TE} (h : PE X e ta) (h2 : attributeBase e f X.env (eval e X.env) = eval e X.env) (hK : X.K = K := by rfl) : PE X (e.Attribute f pos) (tFld K ta f) := by subst hK; exact pe_fld h h2
end
end Hf

/-! The head by facts, with one more question of one's own (ex). -/
namespace Hf
open PySem PySem.Spec PyProof.Rows L2
abbrev AlH : Type := He.AlD × Bool
def obsH (n : Nat) (fa : List He.Fa) (fn : List He.DefD) (ex : PySem.W.Frag → Bool) (g : Addr → Option Obj) : AlH := (He.obsDG n fa fn g, ex (He.frG g (He.asD g n)))
def hookH (n : Nat) (fa : List He.Fa) (fn : List He.DefD) (ex : PySem.W.Frag → Bool) : PySem.W.Hook where
  α := AlH
  obs := fun s => obsH n fa fn ex s.heap.get?
  val := fun _ => (He.valD fn, true)
  says := fun _ h => ∃ K : PySem.W.Frag, K.In h ∧ He.SaysD fa fn K ∧ ex K = true
  of := fun _ _ e => ⟨_, He.frG_in, congrArg (fun z : AlH => z.1) e, congrArg (fun z : AlH => z.2) e⟩
  keeps := fun _ _ _ ⟨K, hK, c⟩ k => ⟨K, PySem.W.Frag.In.keeps hK k, c⟩
theorem obsH_eq {n : Nat} {fa : List He.Fa} {fn : List He.DefD} {ex : PySem.W.Frag → Bool} {g : Addr → Option Obj} {s : Shared} (h : ∀ a, g a = s.heap.get? a) : obsH n fa fn ex g = (hookH n fa fn ex).obs s := by
  have e : g = s.heap.get? := funext h
  rw [e] <;> rfl
end Hf

/-! The end of a law: what is asked of the classes of errors, beside the facts. -/
namespace Hf
open PySem PySem.Spec PyProof.Rows L2
def exC (K : PySem.W.Frag) (x : Str) : Bool :=
  He.eqO (PySem.W.findIn K (.ref (He.ga K x)) "__getattribute__") (some (some (.builtin "BaseException.__getattribute__"))) && (He.eqO (PySem.W.findIn K (.ref (He.ga K x)) "__getattr__") (some none) &&
  (decide (PySem.W.subIn K (.ref (He.ga K x)) (.type "BaseException") = some true) && (PySem.W.hasDictIn K (He.ga K x) &&
  (He.eqO (PySem.W.findIn K (.ref (He.ga K x)) "__class__") (some (some (.builtin "object.__class__"))) &&
  (He.eqO (PySem.W.specialIn K (.builtin "object.__class__") "__get__") (some (some (.builtin "getset_descriptor.__get__"))) && (decide (PySem.W.takesIn K (.builtin "object.__class__") = some true) && decide (PySem.W.mroIn K (He.ga K x) (.type "object") = some true)))))))
theorem exC_ok {K : PySem.W.Frag} {x : Str} (h : exC K x = true) : ExcC K (He.ga K x) := by
  unfold exC at h
  simp only [Bool.and_eq_true] at h
  obtain ⟨h1, h2, h3, h4, h5, h6, h7, h8⟩ := h
  exact ⟨He.eqO_ok h1, He.eqO_ok h2, of_decide_eq_true h3, h4, He.eqO_ok h5, He.eqO_ok h6, of_decide_eq_true h7, of_decide_eq_true h8⟩
/-- a def that lets nothing out -/
def CXn : CXT := fun _ _ _ _ _ _ => False
theorem quiet {P : Program} {w : World} {K : PySem.W.Frag} {mg : Str → Option Value} {base : Heap} {k : Nat} {f : Addr} {fd : FuncData} {ps : List Str} {sp : Sp} (F : FnOk P w K mg base (L2.CX P w) k f fd ps sp) (h : ∀ vs H Q E, sp vs H Q E → sp vs H Q fun _ _ _ => False) :
    FnOk P w K mg base CXn k f fd ps sp :=
  ⟨F.len, fun A outer s H args us vs Q E hr he hb hv hs => codeAny_mono (F.run A outer s H args us vs Q (fun _ _ _ => False) hr he hb hv (h vs H Q E hs)) fun r s' hq => by
    cases r with
    | error e =>
      obtain ⟨_, _, _, _, _, _, _, _, _, _, _, _, z⟩ := hq
      exact z.elim
    | ok fl =>
      cases fl with
      | ret u => exact hq
      | next => exact hq
      | brk => exact hq
      | cont => exact hq⟩
end Hf

/-! k47: the plain law: data as octets, and back. -/
namespace K47
open PySem PySem.Spec PyProof.Rows L2 Hf
/-! ### numbers as octets -/
def lowN (n : Nat) : Nat → List Nat
  | 0 => []
  | k + 1 => n % 256 :: lowN (n / 256) k
def shrN (n : Nat) : Nat → Nat
  | 0 => n
  | k + 1 => shrN (n / 256) k
theorem shrN_succ (n k : Nat) : shrN n (k + 1) = shrN n k / 256 := by
  induction k generalizing n with
  | zero => rfl
  | succ k ih => exact ih (n / 256)
theorem lowN_succ (n k : Nat) : lowN n (k + 1) = lowN n k ++ [shrN n k % 256] := by
  induction k generalizing n with
  | zero => rfl
  | succ k ih => exact congrArg (n % 256 :: ·) (ih (n / 256))
theorem lowN_len (n k : Nat) : (lowN n k).length = k := by
  induction k generalizing n with
  | zero => rfl
  | succ k ih => exact congrArg (· + 1) (ih (n / 256))
def numN : List Nat → Nat
  | [] => 0
  | x :: xs => x + 256 * numN xs
theorem numN_app (xs : List Nat) (y : Nat) : ∀ t, numN (xs ++ [y]) + 0 * t = numN xs + 256 ^ xs.length * y := by
  intro t
  induction xs with
  | nil => show y + 256 * 0 + 0 * t = 0 + 1 * y; omega
  | cons x xs ih =>
    show x + 256 * numN (xs ++ [y]) + 0 * t = x + 256 * numN xs + 256 ^ (xs.length + 1) * y
    have e : numN (xs ++ [y]) = numN xs + 256 ^ xs.length * y := by omega
    rw [e, Nat.mul_add, Nat.pow_succ, ← Nat.mul_assoc, Nat.mul_comm (256 ^ xs.length) 256]
    omega
theorem numN_low2 {a b : Nat} (ha : a < 256) (hb : b < 256) : lowN (numN [a, b]) 2 = [a, b] := by
  show [(a + 256 * (b + 256 * 0)) % 256, (a + 256 * (b + 256 * 0)) / 256 % 256] = [a, b]
  rw [show (a + 256 * (b + 256 * 0)) % 256 = a by omega, show (a + 256 * (b + 256 * 0)) / 256 % 256 = b by omega]
theorem num_low2 {n : Nat} (h : n < 65536) : numN (lowN n 2) = n := by
  show n % 256 + 256 * (n / 256 % 256 + 256 * 0) = n
  omega
/-- without zeros at the high end -/
def sizeN (n : Nat) : List Nat := if h : n = 0 then [] else n % 256 :: sizeN (n / 256)
termination_by n
decreasing_by omega
theorem sizeN_zero : sizeN 0 = [] := by unfold sizeN; rw [dif_pos rfl]
theorem sizeN_pos {n : Nat} (h : n ≠ 0) : sizeN n = n % 256 :: sizeN (n / 256) := by
  rw [sizeN, dif_neg h]
theorem num_size (n : Nat) : numN (sizeN n) = n := by
  induction n using Nat.strongRecOn with
  | ind n ih =>
    by_cases h : n = 0
    · rw [h, sizeN_zero]; rfl
    · rw [sizeN_pos h]
      show n % 256 + 256 * numN (sizeN (n / 256)) = n
      rw [ih (n / 256) (by omega)]
      omega
theorem low_size (n : Nat) : lowN n (sizeN n).length = sizeN n := by
  induction n using Nat.strongRecOn with
  | ind n ih =>
    by_cases h : n = 0
    · rw [h, sizeN_zero]; rfl
    · rw [sizeN_pos h]
      show n % 256 :: lowN (n / 256) (sizeN (n / 256)).length = _
      rw [ih (n / 256) (by omega)]
theorem size_lt (n : Nat) : ∀ x ∈ sizeN n, x < 256 := by
  induction n using Nat.strongRecOn with
  | ind n ih =>
    intro x hx
    by_cases h : n = 0
    · rw [h, sizeN_zero] at hx; cases hx
    · rw [sizeN_pos h] at hx
      rcases List.mem_cons.mp hx with e | hx
      · omega
      · exact ih (n / 256) (by omega) x hx
/-- octets of which the last one is not 0 -/
def noZero : List Nat → Bool
  | [] => true
  | [x] => x != 0
  | _ :: y :: r => noZero (y :: r)
theorem size_noZero (n : Nat) : noZero (sizeN n) = true := by
  induction n using Nat.strongRecOn with
  | ind n ih =>
    by_cases h : n = 0
    · rw [h, sizeN_zero]; rfl
    · have i := ih (n / 256) (by omega)
      rw [sizeN_pos h]
      by_cases h2 : n / 256 = 0
      · rw [h2, sizeN_zero]
        show (n % 256 != 0) = true
        simp only [bne_iff_ne, ne_eq]
        omega
      · rw [sizeN_pos h2] at i ⊢
        exact i
theorem noZero_size : ∀ xs : List Nat, (∀ x ∈ xs, x < 256) → noZero xs = true → sizeN (numN xs) = xs
  | [], _, _ => sizeN_zero
  | [x], h, z => by
    have hx := h x (List.mem_cons_self ..)
    have hz : x ≠ 0 := by simpa [noZero] using z
    show sizeN (x + 256 * 0) = [x]
    rw [sizeN_pos (by omega), show (x + 256 * 0) % 256 = x by omega, show (x + 256 * 0) / 256 = 0 by omega, sizeN_zero]
  | x :: y :: r, h, z => by
    have hx := h x (List.mem_cons_self ..)
    have i := noZero_size (y :: r) (fun w hw => h w (List.mem_cons_of_mem _ hw)) z
    have hp : numN (y :: r) ≠ 0 := fun e => by
      rw [e, sizeN_zero] at i
      cases i
    show sizeN (x + 256 * numN (y :: r)) = x :: y :: r
    rw [sizeN_pos (by omega), show (x + 256 * numN (y :: r)) % 256 = x by omega, show (x + 256 * numN (y :: r)) / 256 = numN (y :: r) by omega, i]
theorem noZero_last : ∀ (xs : List Nat) (h : xs ≠ []), noZero xs = (xs.getLast h != 0)
  | [x], _ => rfl
  | _ :: y :: r, _ => by
    show noZero (y :: r) = _
    rw [noZero_last (y :: r) (List.cons_ne_nil _ _)]
    rfl
/-! ### data -/
def okc (c : Nat) : Bool := c == 10 || (decide (32 ≤ c) && decide (c ≤ 126) && c != 37)
mutual
def good : PyData → Bool
  | .none => true
  | .int i => decide ((sizeN i.natAbs).length ≤ 255)
  | .str s => decide (s.length ≤ 65535) && s.cps.toList.all okc
  | .tuple ds => decide (ds.length ≤ 65535) && goods ds
  | .bool _ => false
  | .list _ => false
  | .dict _ => false
def goods : List PyData → Bool
  | [] => true
  | d :: ds => good d && goods ds
end
def plainO : PyData → List Nat
  | .none => [0]
  | .int i => (if i < 0 then 2 else 1) :: (sizeN i.natAbs).length :: sizeN i.natAbs
  | .str s => 3 :: (lowN s.length 2 ++ s.cps.toList)
  | _ => []
mutual
def packD : PyData → List Nat
  | .tuple ds => 4 :: (lowN ds.length 2 ++ packDs ds)
  | .none => plainO .none
  | .int i => plainO (.int i)
  | .str s => plainO (.str s)
  | _ => []
def packDs : List PyData → List Nat
  | [] => []
  | d :: ds => packD d ++ packDs ds
end
def isTup : PyData → Bool
  | .tuple _ => true
  | _ => false
theorem packD_plain {d : PyData} (h : isTup d = false) : packD d = plainO d := by
  cases d <;> first | rfl | (cases h) | (unfold packD plainO; rfl)
theorem packD_tup (ds : List PyData) : packD (.tuple ds) = 4 :: (lowN ds.length 2 ++ packDs ds) := by rw [packD]
theorem packDs_nil : packDs [] = [] := by rw [packDs]
theorem packDs_cons (d : PyData) (ds : List PyData) : packDs (d :: ds) = packD d ++ packDs ds := by rw [packDs]
theorem packDs_app : ∀ ds es : List PyData, packDs (ds ++ es) = packDs ds ++ packDs es
  | [], es => by rw [packDs_nil]; rfl
  | d :: ds, es => by rw [List.cons_append, packDs_cons, packDs_cons, packDs_app ds es, List.append_assoc]
theorem goods_cons (d : PyData) (ds : List PyData) : goods (d :: ds) = (good d && goods ds) := by rw [goods]
theorem goods_app : ∀ ds es : List PyData, goods (ds ++ es) = (goods ds && goods es)
  | [], es => by rw [List.nil_append]; unfold goods; rw [Bool.true_and]
  | d :: ds, es => by rw [List.cons_append, goods_cons, goods_cons, goods_app ds es, Bool.and_assoc]
theorem good_tup (ds : List PyData) : good (.tuple ds) = (decide (ds.length ≤ 65535) && goods ds) := by rw [good]
mutual
theorem good_nolist : ∀ d : PyData, good d = true → nolist d = true
  | .none, _ => by unfold nolist; rfl
  | .bool _, _ => by unfold nolist; rfl
  | .int _, _ => by unfold nolist; rfl
  | .str _, _ => by unfold nolist; rfl
  | .list _, h => by unfold good at h; cases h
  | .dict _, h => by unfold good at h; cases h
  | .tuple ds, h => by
    rw [good_tup, Bool.and_eq_true] at h
    unfold nolist
    exact goods_nolist ds h.2
theorem goods_nolist : ∀ ds : List PyData, goods ds = true → nolistAll ds = true
  | [], _ => by unfold nolistAll; rfl
  | d :: ds, h => by
    rw [goods_cons, Bool.and_eq_true] at h
    unfold nolistAll
    rw [good_nolist d h.1, goods_nolist ds h.2]
    rfl
end
/-! ### one plain datum, read: it and the number of octets -/
def textOf (l : List Nat) : Str := ⟨l.toArray⟩
/-- the datum at the head of octets, and the rest -/
def plainP : List Nat → Option (PyData × List Nat)
  | 0 :: r => some (.none, r)
  | 1 :: n :: r => if n ≤ r.length ∧ noZero (r.take n) = true then some (.int (numN (r.take n)), r.drop n) else none
  | 2 :: n :: r => if n ≤ r.length ∧ noZero (r.take n) = true ∧ numN (r.take n) ≠ 0 then some (.int (-(numN (r.take n) : Int)), r.drop n) else none
  | 3 :: a :: b :: r => if numN [a, b] ≤ r.length ∧ (r.take (numN [a, b])).all okc = true then some (.str (textOf (r.take (numN [a, b]))), r.drop (numN [a, b])) else none
  | _ => none
theorem plain_read {d : PyData} (hd : good d = true) (ht : isTup d = false) (l : List Nat) : plainP (plainO d ++ l) = some (d, l) := by
  cases d with
  | none => rfl
  | int i =>
    have hs : (sizeN i.natAbs).length ≤ 255 := by unfold good at hd; exact of_decide_eq_true hd
    have t1 : (sizeN i.natAbs ++ l).take (sizeN i.natAbs).length = sizeN i.natAbs := List.take_left
    have t2 : (sizeN i.natAbs ++ l).drop (sizeN i.natAbs).length = l := List.drop_left
    by_cases h : i < 0
    · have e : plainO (.int i) ++ l = 2 :: (sizeN i.natAbs).length :: (sizeN i.natAbs ++ l) := by
        simp only [plainO]; rw [if_pos h]; rfl
      rw [e]
      show (if _ then _ else _) = _
      rw [t1, t2, if_pos ⟨by rw [List.length_append]; omega, size_noZero _, by rw [num_size]; omega⟩, num_size]
      have e2 : -((i.natAbs : Nat) : Int) = i := by omega
      rw [e2]
    · have e : plainO (.int i) ++ l = 1 :: (sizeN i.natAbs).length :: (sizeN i.natAbs ++ l) := by
        simp only [plainO]; rw [if_neg h]; rfl
      rw [e]
      show (if _ then _ else _) = _
      rw [t1, t2, if_pos ⟨by rw [List.length_append]; omega, size_noZero _⟩, num_size]
      have e2 : ((i.natAbs : Nat) : Int) = i := by omega
      rw [e2]
  | str s =>
    have hs : s.length ≤ 65535 ∧ s.cps.toList.all okc = true := by
      unfold good at hd
      rw [Bool.and_eq_true] at hd
      exact ⟨of_decide_eq_true hd.1, hd.2⟩
    have hl : s.cps.toList.length = s.length := by rw [Array.length_toList]; rfl
    have e : plainO (.str s) ++ l = 3 :: (s.length % 256) :: (s.length / 256 % 256) :: (s.cps.toList ++ l) := rfl
    have en : numN [s.length % 256, s.length / 256 % 256] = s.cps.toList.length := by rw [hl]; exact num_low2 (by omega)
    rw [e]
    show (if _ then _ else _) = _
    rw [en, List.take_left, List.drop_left, if_pos ⟨by rw [List.length_append]; omega, hs.2⟩]
    rfl
  | tuple ds => cases ht
  | bool b => unfold good at hd; cases hd
  | list ds => unfold good at hd; cases hd
  | dict ds => unfold good at hd; cases hd
theorem numN_lt2 {a b : Nat} (ha : a < 256) (hb : b < 256) : numN [a, b] < 65536 := by
  show a + 256 * (b + 256 * 0) < 65536
  omega
theorem plain_back {l r : List Nat} {d : PyData} (ho : ∀ x ∈ l, x < 256) (h : plainP l = some (d, r)) : good d = true ∧ isTup d = false ∧ plainO d ++ r = l := by
  unfold plainP at h
  split at h
  · cases h
    exact ⟨by unfold good; rfl, rfl, rfl⟩
  · rename_i n r0
    have hn : n < 256 := ho n (by simp)
    split at h
    · rename_i c
      obtain ⟨c1, c2⟩ := c
      cases h
      have hr : ∀ x ∈ r0.take n, x < 256 := fun x hx => ho x (by simp [List.mem_of_mem_take hx])
      have es := noZero_size _ hr c2
      have en : ((numN (r0.take n) : Nat) : Int).natAbs = numN (r0.take n) := Int.natAbs_natCast _
      have el : (r0.take n).length = n := by rw [List.length_take]; omega
      refine ⟨?_, rfl, ?_⟩
      · unfold good
        rw [en, es, el]
        exact decide_eq_true (by omega)
      · simp only [plainO]
        rw [en, es, el, if_neg (by omega)]
        show 1 :: n :: (r0.take n ++ r0.drop n) = _
        rw [List.take_append_drop]
    · cases h
  · rename_i n r0
    have hn : n < 256 := ho n (by simp)
    split at h
    · rename_i c
      obtain ⟨c1, c2, c3⟩ := c
      cases h
      have hr : ∀ x ∈ r0.take n, x < 256 := fun x hx => ho x (by simp [List.mem_of_mem_take hx])
      have es := noZero_size _ hr c2
      have en : (-((numN (r0.take n) : Nat) : Int)).natAbs = numN (r0.take n) := by rw [Int.natAbs_neg]; exact Int.natAbs_natCast _
      have el : (r0.take n).length = n := by rw [List.length_take]; omega
      refine ⟨?_, rfl, ?_⟩
      · unfold good
        rw [en, es, el]
        exact decide_eq_true (by omega)
      · simp only [plainO]
        rw [en, es, el, if_pos (by omega)]
        show 2 :: n :: (r0.take n ++ r0.drop n) = _
        rw [List.take_append_drop]
    · cases h
  · rename_i a b r0
    have ha : a < 256 := ho a (by simp)
    have hb : b < 256 := ho b (by simp)
    split at h
    · rename_i c
      obtain ⟨c1, c2⟩ := c
      cases h
      have el : (r0.take (numN [a, b])).length = numN [a, b] := by rw [List.length_take]; omega
      have ez : (textOf (r0.take (numN [a, b]))).length = numN [a, b] := by
        show (r0.take (numN [a, b])).toArray.size = _
        rw [List.size_toArray, el]
      have := numN_lt2 ha hb
      refine ⟨?_, rfl, ?_⟩
      · unfold good
        rw [ez, Bool.and_eq_true]
        exact ⟨decide_eq_true (by omega), c2⟩
      · simp only [plainO]
        rw [ez, numN_low2 ha hb]
        show 3 :: a :: b :: (r0.take (numN [a, b]) ++ r0.drop (numN [a, b])) = _
        rw [List.take_append_drop]
    · cases h
  · cases h
/-! ### what is still to be read: frames of a size and the items so far -/
abbrev Frm := Nat × List PyData
def Up : List Frm → List PyData → List Nat → PyData → Prop
  | [], items, l, d => l = [] ∧ items = [d]
  | fr :: st, items, l, d => ∃ (ms : List PyData) (l' : List Nat), fr.2.length + 1 + ms.length = fr.1 ∧ goods ms = true ∧ l = packDs ms ++ l' ∧ Up st (fr.2 ++ [.tuple items] ++ ms) l' d
def Res (fr : Frm) (st : List Frm) (l : List Nat) (d : PyData) : Prop := ∃ (ms : List PyData) (l' : List Nat), fr.2.length + ms.length = fr.1 ∧ goods ms = true ∧ l = packDs ms ++ l' ∧ Up st (fr.2 ++ ms) l' d
theorem res_done {n : Nat} {its : List PyData} {st : List Frm} {l : List Nat} {d : PyData} (h : its.length = n) : Res (n, its) st l d ↔ Up st its l d := by
  constructor
  · rintro ⟨ms, l', h1, _, h2, h3⟩
    have e : ms = [] := List.eq_nil_of_length_eq_zero (by simp only at h1; omega)
    subst e
    rw [packDs_nil] at h2
    rw [h2]
    simpa using h3
  · intro h3
    exact ⟨[], l, by simp [h], by unfold goods; rfl, by rw [packDs_nil]; rfl, by simpa using h3⟩
theorem up_pop {n : Nat} {its items : List PyData} {st : List Frm} {l : List Nat} {d : PyData} : Up ((n, its) :: st) items l d ↔ Res (n, its ++ [.tuple items]) st l d := by
  unfold Res
  show (∃ (ms : List PyData) (l' : List Nat), its.length + 1 + ms.length = n ∧ _) ↔ _
  simp only [List.length_append, List.length_cons, List.length_nil]
theorem packD_head : ∀ {m : PyData}, good m = true → isTup m = false → ∃ h t, packD m = h :: t ∧ h ≠ 4
  | m, hg, ht => by
    rw [packD_plain ht]
    cases m with
    | none => exact ⟨_, _, rfl, by decide⟩
    | int i => exact ⟨_, _, rfl, by split <;> decide⟩
    | str s => exact ⟨_, _, rfl, by decide⟩
    | tuple ds => cases ht
    | bool b => unfold good at hg; cases hg
    | list ds => unfold good at hg; cases hg
    | dict ds => unfold good at hg; cases hg
theorem res_push {n : Nat} {its : List PyData} {st : List Frm} {l : List Nat} {d : PyData} {a b : Nat} (h : its.length < n) (ha : a < 256) (hb : b < 256) :
    Res (n, its) st (4 :: a :: b :: l) d ↔ Res (numN [a, b], []) ((n, its) :: st) l d := by
  constructor
  · rintro ⟨ms, l', h1, h2, h3, h4⟩
    cases ms with
    | nil => simp only [List.length_nil] at h1; omega
    | cons m ms =>
      rw [goods_cons, Bool.and_eq_true] at h2
      rw [packDs_cons] at h3
      cases hm : isTup m with
      | false =>
        obtain ⟨x, t, e, ne⟩ := packD_head h2.1 hm
        rw [e] at h3
        exact absurd (List.cons.inj h3).1.symm ne
      | true =>
        cases m with
        | tuple ds =>
          have hg := h2.1
          rw [good_tup, Bool.and_eq_true] at hg
          have hl : ds.length < 65536 := by have := of_decide_eq_true hg.1; omega
          rw [packD_tup] at h3
          have e3 : (4 : Nat) :: a :: b :: l = 4 :: ds.length % 256 :: ds.length / 256 % 256 :: ((packDs ds ++ packDs ms) ++ l') := by
            rw [h3]
            show _ = _
            simp [lowN]
          injection e3 with _ e3
          injection e3 with e4 e3
          injection e3 with e5 e3
          have en : numN [a, b] = ds.length := by rw [e4, e5]; exact num_low2 hl
          refine ⟨ds, packDs ms ++ l', by rw [en]; simp, hg.2, by rw [e3, List.append_assoc], ?_⟩
          refine ⟨ms, l', by simp only [List.length_cons] at h1 ⊢; omega, h2.2, rfl, ?_⟩
          simpa using h4
        | _ => cases hm
  · rintro ⟨ms, l', h1, h2, h3, ms2, l2, h4, h5, h6, h7⟩
    have hl : ms.length = numN [a, b] := by simpa using h1
    have hn := numN_lt2 ha hb
    refine ⟨.tuple ms :: ms2, l2, by simp only [List.length_cons] at h4 ⊢; omega, ?_, ?_, by simpa using h7⟩
    · rw [goods_cons, Bool.and_eq_true, good_tup, Bool.and_eq_true]
      exact ⟨⟨decide_eq_true (by omega), h2⟩, h5⟩
    · rw [packDs_cons, packD_tup, hl, numN_low2 ha hb, h3, h6]
      simp
theorem res_plain {n : Nat} {its : List PyData} {st : List Frm} {l r : List Nat} {x : Nat} {d m : PyData} (ho : ∀ y ∈ x :: l, y < 256) (h : its.length < n) (hx : x ≠ 4) (hp : plainP (x :: l) = some (m, r)) :
    Res (n, its) st (x :: l) d ↔ Res (n, its ++ [m]) st r d := by
  obtain ⟨g1, g2, g3⟩ := plain_back ho hp
  constructor
  · rintro ⟨ms, l', h1, h2, h3, h4⟩
    cases ms with
    | nil => simp only [List.length_nil] at h1; omega
    | cons m' ms =>
      rw [goods_cons, Bool.and_eq_true] at h2
      rw [packDs_cons] at h3
      cases hm : isTup m' with
      | true =>
        cases m' with
        | tuple ds =>
          rw [packD_tup] at h3
          injection h3 with e _
          exact absurd e hx
        | _ => cases hm
      | false =>
        rw [packD_plain hm, List.append_assoc] at h3
        have q := plain_read h2.1 hm (packDs ms ++ l')
        rw [← h3, hp] at q
        injection q with q
        injection q with q1 q2
        subst q1 q2
        refine ⟨ms, l', by simp only [List.length_cons, List.length_append, List.length_nil] at h1 ⊢; omega, h2.2, rfl, by simpa using h4⟩
  · rintro ⟨ms, l', h1, h2, h3, h4⟩
    refine ⟨m :: ms, l', by simp only [List.length_cons, List.length_append, List.length_nil] at h1 ⊢; omega, by rw [goods_cons, g1, h2]; rfl, ?_, by simpa using h4⟩
    rw [packDs_cons, packD_plain g2, List.append_assoc, ← h3, g3]
theorem res_none {n : Nat} {its : List PyData} {st : List Frm} {l : List Nat} {x : Nat} {d : PyData} (h : its.length < n) (hx : x ≠ 4) (hp : plainP (x :: l) = none) : ¬ Res (n, its) st (x :: l) d := by
  rintro ⟨ms, l', h1, h2, h3, h4⟩
  cases ms with
  | nil => simp only [List.length_nil] at h1; omega
  | cons m' ms =>
    rw [goods_cons, Bool.and_eq_true] at h2
    rw [packDs_cons] at h3
    cases hm : isTup m' with
    | true =>
      cases m' with
      | tuple ds =>
        rw [packD_tup] at h3
        injection h3 with e _
        exact absurd e hx
      | _ => cases hm
    | false =>
      rw [packD_plain hm, List.append_assoc] at h3
      have q := plain_read h2.1 hm (packDs ms ++ l')
      rw [← h3, hp] at q
      cases q
theorem packD_ne {m : PyData} (hg : good m = true) : packD m ≠ [] := by
  cases hm : isTup m with
  | false =>
    obtain ⟨x, t, e, _⟩ := packD_head hg hm
    rw [e]
    exact List.cons_ne_nil _ _
  | true =>
    cases m with
    | tuple ds => rw [packD_tup]; exact List.cons_ne_nil _ _
    | _ => cases hm
theorem res_empty {n : Nat} {its : List PyData} {st : List Frm} {d : PyData} (h : its.length < n) : ¬ Res (n, its) st [] d := by
  rintro ⟨ms, l', h1, h2, h3, h4⟩
  cases ms with
  | nil => simp only [List.length_nil] at h1; omega
  | cons m' ms =>
    rw [goods_cons, Bool.and_eq_true] at h2
    rw [packDs_cons] at h3
    have e := (List.append_eq_nil_iff.mp h3.symm).1
    exact packD_ne h2.1 (List.append_eq_nil_iff.mp e).1
/-- a head of a tuple without two octets behind it -/
theorem res_short {n : Nat} {its : List PyData} {st : List Frm} {l : List Nat} {d : PyData} (h : its.length < n) (hl : l.length < 2) : ¬ Res (n, its) st (4 :: l) d := by
  rintro ⟨ms, l', h1, h2, h3, h4⟩
  cases ms with
  | nil => simp only [List.length_nil] at h1; omega
  | cons m' ms =>
    rw [goods_cons, Bool.and_eq_true] at h2
    rw [packDs_cons] at h3
    cases hm : isTup m' with
    | false =>
      obtain ⟨x, t, e, ne⟩ := packD_head h2.1 hm
      rw [e] at h3
      exact absurd (List.cons.inj h3).1.symm ne
    | true =>
      cases m' with
      | tuple ds =>
        rw [packD_tup] at h3
        have q := congrArg List.length h3
        simp only [List.length_cons, List.length_append, lowN_len] at q
        omega
      | _ => cases hm
theorem res_top {l : List Nat} {d : PyData} : Res (1, []) [] l d ↔ (good d = true ∧ packD d = l) := by
  constructor
  · rintro ⟨ms, l', h1, h2, h3, h4, h5⟩
    rw [List.nil_append] at h5
    subst h5 h4
    rw [goods_cons, Bool.and_eq_true] at h2
    exact ⟨h2.1, by rw [h3, packDs_cons, packDs_nil]; simp⟩
  · rintro ⟨h1, h2⟩
    exact ⟨[d], [], rfl, by rw [goods_cons, h1]; rfl, by rw [packDs_cons, packDs_nil, ← h2]; simp, rfl, rfl⟩
/-! ### depth -/
mutual
def deep : PyData → Nat
  | .tuple ds => deeps ds + 1
  | _ => 0
def deeps : List PyData → Nat
  | [] => 0
  | d :: ds => max (deep d) (deeps ds)
end
mutual
theorem deep_le : ∀ d : PyData, deep d ≤ (packD d).count 4
  | .tuple ds => by
    rw [packD_tup, List.count_cons, List.count_append]
    have := deeps_le ds
    show deeps ds + 1 ≤ _
    simp only [beq_self_eq_true, if_true]
    omega
  | .none => Nat.zero_le _
  | .bool _ => Nat.zero_le _
  | .int _ => Nat.zero_le _
  | .str _ => Nat.zero_le _
  | .list _ => Nat.zero_le _
  | .dict _ => Nat.zero_le _
theorem deeps_le : ∀ ds : List PyData, deeps ds ≤ (packDs ds).count 4
  | [] => Nat.zero_le _
  | d :: ds => by
    rw [packDs_cons, List.count_append]
    have h1 := deep_le d
    have h2 := deeps_le ds
    show max (deep d) (deeps ds) ≤ _
    omega
end
end K47

/-! k47: the text by places, the scopes, the facts that the walks lean on. -/
namespace K47
open PySem PySem.Spec PyProof.Rows L2 Hf
abbrev prog : Program := PySem.Challenge.pw_herefrom_k47_packed_data_are_unpacked
def top (i : Nat) : Stmt := prog.main.body.getD i (.Pass ⟨0, 0, 0, 0⟩)
abbrev s_is_integer : Stmt := top 1
abbrev s_low_octets : Stmt := top 14
abbrev s_number_of : Stmt := top 15
abbrev s_size_octets : Stmt := top 16
abbrev s_pack_plain : Stmt := top 17
abbrev s_pack : Stmt := top 18
abbrev s_need : Stmt := top 19
abbrev s_unpack_number : Stmt := top 20
abbrev s_sign_of : Stmt := top 21
abbrev s_unpack_text : Stmt := top 22
abbrev s_unpack_plain : Stmt := top 23
abbrev s_unpack : Stmt := top 24
abbrev s_law_number : Stmt := top 26
abbrev s_law_take : Stmt := top 27
abbrev s_law_low : Stmt := top 28
abbrev s_law_pack : Stmt := top 29
abbrev s_law_plain : Stmt := top 30
abbrev s_law_deep : Stmt := top 31
abbrev s_law_other : Stmt := top 32
abbrev s_law_fits : Stmt := top 33
abbrev s_law_is_deep : Stmt := top 34
abbrev s_law : Stmt := top 35
structure Tx (K : PySem.W.Frag) (mg : Str → Option Value) : Prop where
  b_isinstance : mg "isinstance" = none
  b_bool : mg "bool" = none
  b_int : mg "int" = none
  b_range : mg "range" = none
  b_reversed : mg "reversed" = none
  c_TEXT : ∃ t, mg "TEXT" = some (.int 3 t)
  b_len : mg "len" = none
  b_ord : mg "ord" = none
  c_MINUS : ∃ t, mg "MINUS" = some (.int 2 t)
  c_NUMBER : ∃ t, mg "NUMBER" = some (.int 1 t)
  b_abs : mg "abs" = none
  c_NOTHING : ∃ t, mg "NOTHING" = some (.int 0 t)
  b_tuple : mg "tuple" = none
  b_list : mg "list" = none
  c_MANY : ∃ t, mg "MANY" = some (.int 4 t)
  x_Malformed : PySem.W.excIn K (He.ga K "Malformed") He.veBase "ValueError.__new__" = true ∧ PySem.W.keepIn K (.ref (He.ga K "Malformed")) = true ∧ PySem.W.subIn K (.ref (He.ga K "Malformed")) (.type "BaseException") = some true ∧ PySem.W.typeIn K (.ref (He.ga K "Malformed")) = some (.type "type")
  g_Malformed : mg "Malformed" = some (.ref (He.ga K "Malformed"))
  c_SIGNS : ∃ t, mg "SIGNS" = some (.str " !\"#$&'()*+,-./0123456789:;<=>?@ABCDEFGHIJKLMNOPQRSTUVWXYZ[\\]^_`abcdefghijklmnopqrstuvwxyz{|}~" t)
  c_BARRED : ∃ t, mg "BARRED" = some (.int 37 t)
  c_LINE_END : ∃ t, mg "LINE_END" = some (.int 10 t)
  b_str : mg "str" = none
  g_FollowError : mg "FollowError" = some (.ref (He.ga K "FollowError"))
  b_ValueError : mg "ValueError" = none
  e_Malformed : ExcC K (He.ga K "Malformed")
  k_Malformed__Malformed : PySem.W.kitOne K (.ref (He.ga K "Malformed")) (.ref (He.ga K "Malformed")) = some true
  k_Malformed__TValueError : PySem.W.kitOne K (.ref (He.ga K "Malformed")) (.type "ValueError") = some true
  m_Malformed__FollowError : PySem.W.exmOne K (.ref (He.ga K "Malformed")) (.ref (He.ga K "FollowError")) = some true
theorem sc_is_integer : FnScope ["data"] ["data"] (defScope s_is_integer) := ⟨rfl, rfl, rfl, by decide +kernel, rfl, by decide +kernel, by decide +kernel⟩
theorem sc_low_octets : FnScope ["number", "count", "found", "_"] ["number", "count"] (defScope s_low_octets) := ⟨rfl, rfl, rfl, by decide +kernel, rfl, by decide +kernel, by decide +kernel⟩
theorem sc_number_of : FnScope ["octets", "total", "octet"] ["octets"] (defScope s_number_of) := ⟨rfl, rfl, rfl, by decide +kernel, rfl, by decide +kernel, by decide +kernel⟩
theorem sc_size_octets : FnScope ["number", "found"] ["number"] (defScope s_size_octets) := ⟨rfl, rfl, rfl, by decide +kernel, rfl, by decide +kernel, by decide +kernel⟩
theorem sc_pack_plain : FnScope ["data", "octets", "sign"] ["data"] (defScope s_pack_plain) := ⟨rfl, rfl, rfl, by decide +kernel, rfl, by decide +kernel, by decide +kernel⟩
theorem sc_pack : FnScope ["data", "found", "left", "one"] ["data"] (defScope s_pack) := ⟨rfl, rfl, rfl, by decide +kernel, rfl, by decide +kernel, by decide +kernel⟩
theorem sc_need : FnScope ["octets", "at", "count"] ["octets", "at", "count"] (defScope s_need) := ⟨rfl, rfl, rfl, by decide +kernel, rfl, by decide +kernel, by decide +kernel⟩
theorem sc_unpack_number : FnScope ["octets", "at", "size", "number"] ["octets", "at"] (defScope s_unpack_number) := ⟨rfl, rfl, rfl, by decide +kernel, rfl, by decide +kernel, by decide +kernel⟩
theorem sc_sign_of : FnScope ["code"] ["code"] (defScope s_sign_of) := ⟨rfl, rfl, rfl, by decide +kernel, rfl, by decide +kernel, by decide +kernel⟩
theorem sc_unpack_text : FnScope ["octets", "at", "size", "codes", "signs", "code"] ["octets", "at"] (defScope s_unpack_text) := ⟨rfl, rfl, rfl, by decide +kernel, rfl, by decide +kernel, by decide +kernel⟩
theorem sc_unpack_plain : FnScope ["octets", "at", "kind"] ["octets", "at"] (defScope s_unpack_plain) := ⟨rfl, rfl, rfl, by decide +kernel, rfl, by decide +kernel, by decide +kernel⟩
theorem sc_unpack : FnScope ["octets", "rows", "sizes", "at", "items", "data"] ["octets"] (defScope s_unpack) := ⟨rfl, rfl, rfl, by decide +kernel, rfl, by decide +kernel, by decide +kernel⟩
theorem sc_law_number : FnScope ["script", "k", "cell", "first", "second"] ["script", "k"] (defScope s_law_number) := ⟨rfl, rfl, rfl, by decide +kernel, rfl, by decide +kernel, by decide +kernel⟩
theorem sc_law_take : FnScope ["box", "size", "digit"] ["box", "size"] (defScope s_law_take) := ⟨rfl, rfl, rfl, by decide +kernel, rfl, by decide +kernel, by decide +kernel⟩
theorem sc_law_low : FnScope ["number", "count", "octets", "k"] ["number", "count"] (defScope s_law_low) := ⟨rfl, rfl, rfl, by decide +kernel, rfl, by decide +kernel, by decide +kernel⟩
theorem sc_law_pack : FnScope ["data", "size", "rest", "octets", "one", "sign"] ["data"] (defScope s_law_pack) := ⟨rfl, rfl, rfl, by decide +kernel, rfl, by decide +kernel, by decide +kernel⟩
theorem sc_law_plain : FnScope ["box", "kind", "size", "text", "k"] ["box"] (defScope s_law_plain) := ⟨rfl, rfl, rfl, by decide +kernel, rfl, by decide +kernel, by decide +kernel⟩
theorem sc_law_deep : FnScope ["number", "depth", "box", "k"] ["number", "depth"] (defScope s_law_deep) := ⟨rfl, rfl, rfl, by decide +kernel, rfl, by decide +kernel, by decide +kernel⟩
theorem sc_law_other : FnScope ["octets", "box", "kind", "spot"] ["octets", "box"] (defScope s_law_other) := ⟨rfl, rfl, rfl, by decide +kernel, rfl, by decide +kernel, by decide +kernel⟩
theorem sc_law_fits : FnScope ["octets", "data", "e"] ["octets"] (defScope s_law_fits) := ⟨rfl, rfl, rfl, by decide +kernel, rfl, by decide +kernel, by decide +kernel⟩
theorem sc_law_is_deep : FnScope ["data", "octets", "told"] ["data", "octets"] (defScope s_law_is_deep) := ⟨rfl, rfl, rfl, by decide +kernel, rfl, by decide +kernel, by decide +kernel⟩
theorem sc_law : FnScope ["script", "k", "data", "octets", "j", "other", "passed"] ["script"] (defScope s_law) := ⟨rfl, rfl, rfl, by decide +kernel, rfl, by decide +kernel, by decide +kernel⟩
end K47

namespace K47
open PySem PySem.Spec PyProof.Rows L2 Hf
local macro_rules | `(tactic| walk_at "hh") => `(tactic| first | assumption | exact Chg.at_ (by assumption) | (refine Ex.use (by assumption) ?_; walk_at "hh") | (refine Chg.use (by assumption) ?_ ?_; (walk_at "hne"); (walk_at "hh")))
local macro_rules | `(tactic| walk_at "hne") => `(tactic| first | assumption | exact Ne.symm (by assumption) | exact ne_fresh (by assumption) (by walk_at "hh") | exact (ne_fresh (by assumption) (by walk_at "hh")).symm)
local macro_rules | `(tactic| walk_at "hn") => `(tactic| first | assumption | exact Ex.fresh (by assumption) (by walk_at "hn") | exact Chg.fresh (by assumption) (by walk_at "hn"))
local macro_rules | `(tactic| walk_at "hx") => `(tactic| first | assumption | exact Ex.refl _ | (refine Ex.trans ?_ (by assumption); walk_at "hx") | (refine Chg.ex ?_ (by assumption) ?_; (walk_at "hx"); (walk_at "hn")))
local macro_rules | `(tactic| walk_at "hs") => `(tactic| first | assumption | exact SqL.of (by walk_at "hh") | exact Ex.l (by walk_at "hx") (by assumption) | (refine Chg.l (by assumption) ?_ ?_; (walk_at "hne"); (walk_at "hs")))
local macro_rules | `(tactic| walk_at "ht") => `(tactic| first | assumption | exact SqT.of (by walk_at "hh") | exact Ex.t (by walk_at "hx") (by assumption) | (refine Chg.t (by assumption) ?_ ?_; (walk_at "hne"); (walk_at "ht")))
local macro_rules | `(tactic| walk_at "sz") => `(tactic| first | decide | omega | (simp only [List.length_append, List.length_cons, List.length_nil, List.length_map, List.length_reverse] <;> omega))
local macro_rules | `(tactic| walk_at "cm") => `(tactic| first | exact .inr ⟨by decide, by decide⟩ | exact .inl ⟨by decide, by decide⟩ | exact .inr ⟨by omega, by omega⟩ | exact .inl ⟨by omega, by omega⟩)
local macro_rules | `(tactic| walk_at "do") => `(tactic| first | decide | omega)
local macro_rules | `(tactic| walk_at "ws") => `(tactic| first
  | ((with_reducible refine' w_var ?h ?_); (case h => exact rfl)) | with_reducible refine' w_c ?_ | with_reducible refine' w_op ?_ | with_reducible refine' w_seq ?_ | with_reducible refine' w_asg ?_ | with_reducible refine' w_gName ?_ | ((with_reducible show Ends.nx _ _ _); dsimp only) | with_reducible refine' w_cons ?_ | with_reducible refine' w_nil ?_ | with_reducible refine' w_cb ?_ | with_reducible refine' w_cal ?_
  | with_reducible refine' w_drop ?_ | with_reducible refine' w_ret ?_ | with_reducible refine' w_ifS ?_ | with_reducible refine' w_test ?_ | with_reducible refine' w_bl ?_ | with_reducible refine' w_next ?_
  | with_reducible refine' w_addI ?_ | with_reducible refine' w_subI ?_ | with_reducible refine' w_eqI ?_ | with_reducible refine' w_neI ?_ | with_reducible refine' w_lt ?_ | with_reducible refine' w_le ?_ | with_reducible refine' w_gt ?_ | with_reducible refine' w_ge ?_ | with_reducible refine' w_eqS ?_ | with_reducible refine' w_neS ?_ | with_reducible refine' isN_I ?_ | with_reducible refine' isN_S ?_ | with_reducible refine' isN_B ?_ | with_reducible refine' isN_R ?_ | with_reducible refine' isN_N ?_ | with_reducible refine' isNot_I ?_ | with_reducible refine' isNot_S ?_ | with_reducible refine' isNot_B ?_ | with_reducible refine' isNot_R ?_ | with_reducible refine' isNot_N ?_ | with_reducible refine' w_isN ?_ | with_reducible refine' w_isNotN ?_ | with_reducible refine' w_ord1 ?_
  | ((with_reducible refine' w_modI ?h ?_); (case h => walk_at "do")) | ((with_reducible refine' w_divI ?h ?h2 ?_); (case h => walk_at "do"); (case h2 => walk_at "do")) | ((with_reducible refine' w_mulI ?h ?_); (case h => walk_at "cm")) | with_reducible refine' w_negI ?_ | with_reducible refine' w_un ?_
  | with_reducible refine' w_intI ?_ | with_reducible refine' w_intB ?_ | with_reducible refine' w_abs ?_ | with_reducible refine' w_not ?_ | with_reducible refine' w_and ?_ | with_reducible refine' w_or ?_ | with_reducible refine' w_if ?_ | with_reducible refine' w_notV ?_ | with_reducible refine' w_andV ?_ | with_reducible refine' w_orV ?_ | with_reducible refine' w_chain ?_
  | with_reducible refine' w_tTr ?_ | with_reducible refine' w_trB ?_ | with_reducible refine' w_trI ?_ | with_reducible refine' w_trN ?_ | with_reducible refine' w_tB ?_ | ((with_reducible refine' w_augI ?h ?_); (case h => exact rfl)) | with_reducible refine' w_int ?_
  | with_reducible refine' w_lst ?_ | with_reducible refine' w_tup ?_ | ((with_reducible refine' w_newL ?h ?_); (case h => walk_at "sz")) | ((with_reducible refine' w_newT ?h ?_); (case h => walk_at "sz"))
  | with_reducible refine' w_sl ?_ | with_reducible refine' w_noPart ?_ | with_reducible refine' w_part ?_ | with_reducible refine' w_partI ?_ | with_reducible refine' w_bm0 ?_ | with_reducible refine' w_bm ?_ | with_reducible refine' w_sub ?_ | with_reducible refine' w_gCons ?_ | with_reducible refine' w_gNil ?_
  | ((with_reducible refine' w_ixL ?h ?h2 ?_); (case h => walk_at "hs"); (case h2 => first | exact rfl | exact atI_last)) | ((with_reducible refine' w_ixT ?h ?h2 ?_); (case h => walk_at "ht"); (case h2 => exact rfl))
  | ((with_reducible refine' w_lenL ?h ?_); (case h => walk_at "hs")) | ((with_reducible refine' w_lenT ?h ?_); (case h => walk_at "ht"))
  | ((with_reducible refine' w_tyL ?h ?_); (case h => walk_at "hh")) | with_reducible refine' w_tyS ?_ | ((with_reducible refine' w_append ?h ?h2 ?_); (case h => walk_at "hh"); (case h2 => walk_at "sz"))
  | ((with_reducible show Ends.rt _ _ _); dsimp only) | ((with_reducible show Ends.bk _ _ _); dsimp only) | ((with_reducible show Ends.ct _ _ _); dsimp only) | with_reducible refine' w_break ?_ | with_reducible refine' w_cont ?_ | with_reducible refine' w_retN ?_
  | with_reducible refine' w_for ?_ | with_reducible refine' w_lc ?_ | with_reducible refine' w_iAny ?_ | with_reducible refine' w_iRng1 ?_ | with_reducible refine' w_iRng2 ?_ | with_reducible refine' w_iEnum ?_ | with_reducible refine' w_iZip ?_ | with_reducible refine' w_iRev ?_
  | ((with_reducible refine' w_rng ?h ?h2 ?_); (case h => walk_at "do"); (case h2 => walk_at "do")) | ((with_reducible refine' w_rng2 ?h ?h2 ?h3 ?h4 ?_); (case h => walk_at "do"); (case h2 => walk_at "do"); (case h3 => walk_at "do"); (case h4 => walk_at "do"))
  | ((with_reducible refine' w_itL ?h ?_); (case h => walk_at "hs")) | ((with_reducible refine' w_itT ?h ?_); (case h => walk_at "ht")) | with_reducible refine' w_itS ?_ | ((with_reducible refine' w_itRL ?h ?_); (case h => walk_at "hs")) | ((with_reducible refine' w_itRT ?h ?_); (case h => walk_at "ht"))
  | ((with_reducible refine' w_itEn ?h ?_); (case h => walk_at "hs")) | ((with_reducible refine' w_itZ ?h ?h2 ?_); (case h => walk_at "hs"); (case h2 => walk_at "hs"))
  | ((with_reducible show wipe _ _ = wipe _ _ ∧ _); refine ⟨rfl, ?_⟩) | with_reducible refine' w_yes1 ?_ | with_reducible refine' w_whT ?_
  | with_reducible refine' isI_int ?_ | with_reducible refine' isI_bool ?_ | with_reducible refine' isI_str ?_ | with_reducible refine' isI_tuple ?_ | with_reducible refine' isI_list ?_
  | with_reducible refine' isS_int ?_ | with_reducible refine' isS_bool ?_ | with_reducible refine' isS_str ?_ | with_reducible refine' isS_tuple ?_ | with_reducible refine' isS_list ?_
  | with_reducible refine' isN_int ?_ | with_reducible refine' isN_bool ?_ | with_reducible refine' isN_str ?_ | with_reducible refine' isN_tuple ?_ | with_reducible refine' isN_list ?_
  | with_reducible refine' isB_int ?_ | with_reducible refine' isB_bool ?_ | with_reducible refine' isB_str ?_ | with_reducible refine' isB_tuple ?_ | with_reducible refine' isB_list ?_
  | ((with_reducible refine' isT_int ?h ?_); (case h => walk_at "ht")) | ((with_reducible refine' isT_bool ?h ?_); (case h => walk_at "ht")) | ((with_reducible refine' isT_str ?h ?_); (case h => walk_at "ht")) | ((with_reducible refine' isT_tuple ?h ?_); (case h => walk_at "ht")) | ((with_reducible refine' isT_list ?h ?_); (case h => walk_at "ht"))
  | ((with_reducible refine' isL_int ?h ?_); (case h => walk_at "hs")) | ((with_reducible refine' isL_bool ?h ?_); (case h => walk_at "hs")) | ((with_reducible refine' isL_str ?h ?_); (case h => walk_at "hs")) | ((with_reducible refine' isL_tuple ?h ?_); (case h => walk_at "hs")) | ((with_reducible refine' isL_list ?h ?_); (case h => walk_at "hs"))
  | ((with_reducible refine' w_popC ?h ?_); (case h => walk_at "hh")) | ((with_reducible refine' w_tuple ?h ?_); (case h => walk_at "hs"))
  | with_reducible refine' w_snoc ?_ | with_reducible refine' w_snocN ?_ | with_reducible refine' w_conz ?_ | with_reducible refine' w_conzN ?_ | with_reducible refine' w_nilz ?_ | with_reducible refine' w_nilzN ?_
  | ((with_reducible refine' w_gTup ?h ?h2 ?_); (case h => walk_at "ht"); (case h2 => exact rfl))
  | ((with_reducible refine' w_powI ?h ?_); (case h => exact ⟨by decide, by decide, by decide⟩))
  | ((with_reducible refine' w_setL ?h ?h2 ?_); (case h => walk_at "hh"); (case h2 => exact rfl))
  | with_reducible refine' w_listRev ?_ | ((with_reducible refine' w_lRev ?h ?_); (case h => walk_at "ht"))
  | ((with_reducible refine' w_slL ?h ?_); (case h => walk_at "hs")) | ((with_reducible refine' w_list ?h ?_); (case h => walk_at "hs")) | ((with_reducible refine' w_extend ?h ?h2 ?h3 ?_); (case h => walk_at "hh"); (case h2 => walk_at "hh"); (case h3 => walk_at "sz"))
  | ((with_reducible refine' w_trL ?h ?_); (case h => walk_at "hs")) | ((with_reducible refine' w_trT ?h ?_); (case h => walk_at "ht"))
  | ((with_reducible refine' w_addL ?h ?h2 ?h3 ?_); (case h => walk_at "hh"); (case h2 => walk_at "hh"); (case h3 => walk_at "sz"))
  | ((with_reducible refine' w_eqN ?h ?h2 ?_); (case h => walk_at "hs"); (case h2 => walk_at "hs")) | ((with_reducible refine' w_neN ?h ?h2 ?_); (case h => walk_at "hs"); (case h2 => walk_at "hs"))
  | with_reducible refine' w_nt ?_ | with_reducible refine' w_nf ?_
  | with_reducible refine' iteT ?_ | with_reducible refine' iteF ?_)
local macro_rules | `(tactic| walk_at "wl") => `(tactic| repeat (walk_at "ws"))
abbrev Mal (K : PySem.W.Frag) : Value := .ref (He.ga K "Malformed")
def spLow : Sp := fun vs H Q _ => ∃ (n c : Nat), vs = [.int (n : Int), .int (c : Int)] ∧ c ≤ 100000 ∧ RetL (vN (lowN n c)) H Q
def spNum (K : PySem.W.Frag) : Sp := fun vs H Q _ => ∃ (a : Addr) (xs : List Nat), vs = [.ref a] ∧ SqL K H a (vN xs) ∧ Q (.int (numN xs : Nat)) H
def spSize : Sp := fun vs H Q _ => ∃ (n : Nat), vs = [.int (n : Int)] ∧ (sizeN n).length ≤ 100000 ∧ RetL (vN (sizeN n)) H Q
def isI : PyData → Bool
  | .int _ => true
  | _ => false
def spIsI (K : PySem.W.Frag) : Sp := fun vs H Q _ => ∃ (v : V) (d : PyData), vs = [v] ∧ Dp K H v d ∧ good d = true ∧ Q (.bl (isI d)) H
def spPlainO (K : PySem.W.Frag) : Sp := fun vs H Q _ => ∃ (v : V) (d : PyData), vs = [v] ∧ Dp K H v d ∧ good d = true ∧ isTup d = false ∧ RetL (vN (plainO d)) H Q
def spNeed (K : PySem.W.Frag) : Sp := fun vs H Q E => ∃ (a : Addr) (xs : List Nat) (i c : Nat), vs = [.ref a, .int (i : Int), .int (c : Int)] ∧ SqL K H a (vN xs) ∧ (i + c ≤ xs.length → RetL (vN ((xs.drop i).take c)) H Q) ∧ (xs.length < i + c → ∀ H', Ex H H' → E (Mal K) none H')
def sgV (c : Nat) : V := if okc c = true then .str ⟨#[c]⟩ else .non
def spSign : Sp := fun vs H Q _ => ∃ (c : Nat), vs = [.int (c : Int)] ∧ Q (sgV c) H
def signs : Str := " !\"#$&'()*+,-./0123456789:;<=>?@ABCDEFGHIJKLMNOPQRSTUVWXYZ[\\]^_`abcdefghijklmnopqrstuvwxyz{|}~"
theorem signs_at : ∀ c : Nat, c < 127 → 32 ≤ c → c ≠ 37 → atI signs.cps.toList ((c : Int) - 32 - (if decide ((37 : Int) < c) = true then 1 else 0)) = some c := by decide +kernel
section
variable {P : Program} {w : World} {K : PySem.W.Frag} {mg : Str → Option Value} {base : Heap} {f : Addr} {fd : FuncData}
theorem ok_is_integer (T : Tx K mg) (F : FunD K "is_integer" "is_integer" (defArgs s_is_integer) (defBody s_is_integer) (defScope s_is_integer) [] [] f fd) : FnOkR P w K mg base 1 f fd ["data"] (spIsI K) := by
  refine okR F sc_is_integer (fun vs H Q E h => ?_) (fun cdv A outer s H vs Q E hr h => ?_)
  · obtain ⟨v, d, rfl, _⟩ := h
    rfl
  · obtain ⟨v, d, rfl, hd, hg, k⟩ := h
    refine ⟨_, (pss_one (ps_ret (pe_and (pe_callB (cIsiK (K := K)) (by rfl) T.b_isinstance bt_isinstance (pa_cons (pv 0) (pa_cons (pe_bltn (v := .ty "int") (by rfl) T.b_int bt_int rfl) pa_nil))) (pe_one (pe_not (pe_callB (cIsiK (K := K)) (by rfl) T.b_isinstance bt_isinstance (pa_cons (pv 0) (pa_cons (pe_bltn (v := .ty "bool") (by rfl) T.b_bool bt_bool rfl) pa_nil)))))))), ?_⟩
    cases hd with
    | non => walk_at "wl"; exact k
    | int i => walk_at "wl"; exact k
    | str i => walk_at "wl"; exact k
    | bl b => unfold good at hg; cases hg
    | lst h1 h2 => unfold good at hg; cases hg
    | tup h1 h2 => walk_at "wl"; exact k
theorem ok_low_octets (T : Tx K mg) (F : FunD K "low_octets" "low_octets" (defArgs s_low_octets) (defBody s_low_octets) (defScope s_low_octets) [] [] f fd) : FnOkR P w K mg base 1 f fd ["number", "count"] spLow := by
  refine okR F sc_low_octets (fun vs H Q E h => ?_) (fun cdv A outer s H vs Q E hr h => ?_)
  · obtain ⟨n, c, rfl, _⟩ := h
    rfl
  · obtain ⟨n, c, rfl, hc, k⟩ := h
    refine ⟨_, (pss_cons (ps_set (i := 2) sc_low_octets.nd rfl (Or.inl rfl) (pe_lst pa_nil))
      (pss_cons (ps_for (passes_of rfl) rfl (pi_range1 rfl T.b_range (pa_cons (pv 1) pa_nil)) (pg_name (i := 3) sc_low_octets.nd rfl (Or.inl rfl)) (pss_cons (ps_expr (asK (K := K) (fun K => tBM K _ _ _ _) (pe_bm PySem.F.plainAttrs_list PySem.F.slot_list_append PySem.F.type_list_append mt_append (pv 2) (pa_cons (pe_op opMod (pv 0) pe_int) pa_nil))))
      (pss_one (ps_set (i := 0) sc_low_octets.nd rfl (Or.inl rfl) (pe_op opDiv (pv 0) pe_int)))))
      (pss_one (ps_ret (pv 2))))), ?_⟩
    walk_at "wl"
    intro p H1 hp e1 h1
    walk_at "wl"
    rw [Int.toNat_natCast]
    refine w_forR (fun i σ H' => ∃ v, σ = [some (.int (shrN n i : Nat)), some (.int (c : Int)), some (.ref p), v] ∧ Ex H H' ∧ H' p = some (.lst (vN (lowN n i)))) ⟨_, rfl, e1, h1⟩ ?_ ?_
    · rintro i σ H2 hi ⟨v, rfl, e2, h2⟩
      have hl := lowN_len n i
      have hv := vN_len (lowN n i)
      walk_at "wl"
      intro H3 c3
      walk_at "wl"
      refine ⟨_, by rw [shrN_succ]; rfl, by walk_at "hx", ?_⟩
      rw [lowN_succ, vN_app]
      exact c3.at_
    · rintro σ H2 ⟨v, rfl, e2, h2⟩
      walk_at "wl"
      exact k p H2 e2 hp h2
theorem numN_drop {xs : List Nat} {i x : Nat} (h : xs[i]? = some x) : numN (xs.drop i) = x + 256 * numN (xs.drop (i + 1)) := by
  obtain ⟨hi, rfl⟩ := List.getElem?_eq_some_iff.mp h
  rw [List.drop_eq_getElem_cons hi]
  rfl
theorem ok_number_of (T : Tx K mg) (F : FunD K "number_of" "number_of" (defArgs s_number_of) (defBody s_number_of) (defScope s_number_of) [] [] f fd) : FnOkR P w K mg base 1 f fd ["octets"] (spNum K) := by
  refine okR F sc_number_of (fun vs H Q E h => ?_) (fun cdv A outer s H vs Q E hr h => ?_)
  · obtain ⟨a, xs, rfl, _⟩ := h
    rfl
  · obtain ⟨a, xs, rfl, hs, k⟩ := h
    refine ⟨_, (pss_cons (ps_set (i := 1) sc_number_of.nd rfl (Or.inl rfl) pe_int)
      (pss_cons (ps_for (passes_of rfl) rfl (asKI (K := K) (fun K => RT.iRevA K _) (RT.pi_revA rfl T.b_reversed (pv 0))) (pg_name (i := 2) sc_number_of.nd rfl (Or.inl rfl)) (pss_one (ps_set (i := 1) sc_number_of.nd rfl (Or.inl rfl) (pe_op (opAddK (K := K)) (pe_op opMulA (pv 1) pe_int) (pv 2)))))
      (pss_one (ps_ret (pv 1))))), ?_⟩
    walk_at "wl"
    refine w_forRev (fun i σ H' => H' = H ∧ ∃ v, σ = [some (.ref a), some (.int (numN (xs.drop (xs.length - i)) : Nat)), v]) ⟨rfl, _, by rw [Nat.sub_zero, List.drop_length]; rfl⟩ ?_ ?_ ?_
    · rintro i σ H2 hi ⟨rfl, _⟩
      exact hs
    · rintro i x σ H2 e ⟨rfl, v, rfl⟩
      rw [vN_rev] at e
      obtain ⟨n, en, rfl⟩ := vN_get e
      walk_at "wl"
      refine ⟨rfl, some (.int (n : Int)), ?_⟩
      have hi : i < xs.length := by
        have := (List.getElem?_eq_some_iff.mp en).1
        rw [List.length_reverse] at this
        exact this
      rw [List.getElem?_reverse hi] at en
      have e2 := numN_drop en
      rw [show xs.length - 1 - i = xs.length - (i + 1) by omega, show xs.length - (i + 1) + 1 = xs.length - i by omega] at e2
      have e3 : (numN (xs.drop (xs.length - i)) : Int) * 256 + n = (numN (xs.drop (xs.length - (i + 1))) : Nat) := by omega
      rw [← e3]
      rfl
    · rintro σ H2 ⟨rfl, v, rfl⟩
      walk_at "wl"
      rw [vN_len, Nat.sub_self]
      exact k
theorem sizeN_shr (n i : Nat) (h : shrN n i ≠ 0) : (sizeN n).length > i := by
  induction i generalizing n with
  | zero =>
    have : n ≠ 0 := h
    rw [sizeN_pos this]
    exact Nat.succ_pos _
  | succ i ih =>
    have h2 : n ≠ 0 := fun e => by
      subst e
      have z : ∀ j, shrN 0 j = 0 := fun j => by
        induction j with
        | zero => rfl
        | succ j ih => exact ih
      exact h (z _)
    rw [sizeN_pos h2]
    have := ih (n / 256) h
    rw [List.length_cons]
    omega
theorem low_take (n i : Nat) (h : i ≤ (sizeN n).length) : lowN n i = (sizeN n).take i := by
  induction i generalizing n with
  | zero => rfl
  | succ i ih =>
    have h2 : n ≠ 0 := fun e => by
      subst e
      rw [sizeN_zero] at h
      cases h
    rw [sizeN_pos h2] at h ⊢
    show n % 256 :: lowN (n / 256) i = n % 256 :: (sizeN (n / 256)).take i
    rw [ih (n / 256) (by rw [List.length_cons] at h; omega)]
theorem size_shr0 (n i : Nat) (h : shrN n i = 0) : (sizeN n).length ≤ i := by
  induction i generalizing n with
  | zero =>
    have : n = 0 := h
    rw [this, sizeN_zero]
    exact Nat.le_refl _
  | succ i ih =>
    by_cases h2 : n = 0
    · rw [h2, sizeN_zero]
      exact Nat.zero_le _
    · rw [sizeN_pos h2, List.length_cons]
      have := ih (n / 256) h
      omega
theorem ok_size_octets (T : Tx K mg) (F : FunD K "size_octets" "size_octets" (defArgs s_size_octets) (defBody s_size_octets) (defScope s_size_octets) [] [] f fd) : FnOkR P w K mg base 1 f fd ["number"] spSize := by
  refine okR F sc_size_octets (fun vs H Q E h => ?_) (fun cdv A outer s H vs Q E hr h => ?_)
  · obtain ⟨n, rfl, _⟩ := h
    rfl
  · obtain ⟨n, rfl, hc, k⟩ := h
    refine ⟨_, (pss_cons (ps_set (i := 1) sc_size_octets.nd rfl (Or.inl rfl) (pe_lst pa_nil))
      (pss_cons (ps_while (passes_of rfl) (pt_cmpR opGt (pv 0) pe_int (nomark _)) (pss_cons (ps_expr (asK (K := K) (fun K => tBM K _ _ _ _) (pe_bm PySem.F.plainAttrs_list PySem.F.slot_list_append PySem.F.type_list_append mt_append (pv 1) (pa_cons (pe_op opMod (pv 0) pe_int) pa_nil))))
      (pss_one (ps_set (i := 0) sc_size_octets.nd rfl (Or.inl rfl) (pe_op opDiv (pv 0) pe_int)))))
      (pss_one (ps_ret (pv 1))))), ?_⟩
    walk_at "wl"
    intro p H1 hp e1 h1
    walk_at "wl"
    refine w_while (fun m σ H' => ∃ i, i ≤ (sizeN n).length ∧ m + i = (sizeN n).length ∧ σ = [some (.int (shrN n i : Nat)), some (.ref p)] ∧ Ex H H' ∧ H' p = some (.lst (vN (lowN n i)))) _ ⟨0, Nat.zero_le _, rfl, rfl, e1, h1⟩ ?_
    rintro m σ H2 ⟨i, hi, hm, rfl, e2, h2⟩
    have hl := lowN_len n i
    have hv := vN_len (lowN n i)
    walk_at "wl"
    refine w_dec (fun hp => ?_) (fun hp => ?_)
    · have hne : shrN n i ≠ 0 := by omega
      have hlt := sizeN_shr n i hne
      walk_at "wl"
      intro H3 c3
      walk_at "wl"
      refine ⟨m - 1, by omega, i + 1, by omega, by omega, by rw [shrN_succ]; rfl, by walk_at "hx", ?_⟩
      rw [lowN_succ, vN_app]
      exact c3.at_
    · have hz : shrN n i = 0 := by omega
      have hle := size_shr0 n i hz
      walk_at "wl"
      refine k p H2 e2 (by assumption) ?_
      rw [h2, low_take n i hi, List.take_of_length_le hle]
theorem ok_need (T : Tx K mg) (F : FunD K "need" "need" (defArgs s_need) (defBody s_need) (defScope s_need) [] [] f fd) : FnOkR P w K mg base 1 f fd ["octets", "at", "count"] (spNeed K) := by
  refine okR F sc_need (fun vs H Q E h => ?_) (fun cdv A outer s H vs Q E hr h => ?_)
  · obtain ⟨a, xs, i, c, rfl, _⟩ := h
    rfl
  · obtain ⟨a, xs, i, c, rfl, hs, k1, k2⟩ := h
    refine ⟨_, (pss_cons (ps_if (pt_cmpR opGt (pe_op (opAddK (K := K)) (pv 1) (pv 2)) (pe_callB (cLenK (K := K)) (by rfl) T.b_len PySem.boot_len (pa_cons (pv 0) pa_nil)) (nomark _)) (pss_one (ps_raise rfl (takes_of rfl rfl rfl rfl) (pmk_own PySem.F.excBase_ValueError T.x_Malformed.1 T.g_Malformed T.x_Malformed.2.1 (raises_own T.x_Malformed.2.2.1 T.x_Malformed.2.2.2) rfl))) pss_nil)
      (pss_one (ps_ret (pe_slice (slK (K := K)) (pv 0) (po_some (pv 1)) (po_some (pe_op (opAddK (K := K)) (pv 1) (pv 2))))))), ?_⟩
    walk_at "wl"
    rw [vN_len]
    refine w_dec (fun hp => ?_) (fun hp => ?_)
    · exact k2 (by omega) H (Ex.refl H)
    · walk_at "wl"
      intro p H1 hp1 e1 h1
      walk_at "wl"
      refine k1 (by omega) p H1 e1 hp1 ?_
      rw [h1]
      have e : ((i : Int) + (c : Int)) = ((i + c : Nat) : Int) := by omega
      rw [e, cutV_mid (by omega) (by rw [vN_len]; omega), vN_drop, vN_take, show i + c - i = c by omega]
theorem ok_sign_of (T : Tx K mg) (F : FunD K "sign_of" "sign_of" (defArgs s_sign_of) (defBody s_sign_of) (defScope s_sign_of) [] [] f fd) : FnOkR P w K mg base 1 f fd ["code"] spSign := by
  refine okR F sc_sign_of (fun vs H Q E h => ?_) (fun cdv A outer s H vs Q E hr h => ?_)
  · obtain ⟨c, rfl, _⟩ := h
    rfl
  · obtain ⟨c, rfl, k⟩ := h
    refine ⟨_, (pss_cons (ps_if (pt_cmpR (opEqK (K := K) hr.units) (pv 0) (pe_ci rfl T.c_LINE_END) (nomark _)) (pss_one (ps_ret pe_str)) pss_nil)
      (pss_cons (ps_if (PW.pt (pw_or (pt_cmpR (opEqK (K := K) hr.units) (pv 0) (pe_ci rfl T.c_BARRED) (nomark _)) (pw_or1 (pt_not (pt_chain opLe opLe pe_int (pv 0) pe_int))))) (pss_one (ps_ret pe_non)) pss_nil)
      (pss_one (ps_ret (pe_ix (ixK (K := K)) (pe_cs rfl T.c_SIGNS) (pe_op opSub (pe_op opSub (pv 0) pe_int) (pe_callTy cInt (by rfl) T.b_int bt_int (pa_cons (pe_cmpR opGt (pv 0) (pe_ci rfl T.c_BARRED) (nomark _)) pa_nil))) (fun _ _ => rfl)))))), ?_⟩
    walk_at "wl"
    refine w_dec (fun hp => ?_) (fun hp => ?_)
    · walk_at "wl"
      have e : c = 10 := by omega
      subst e
      exact k
    · walk_at "wl"
      refine w_dec (fun hp2 => ?_) (fun hp2 => ?_)
      · walk_at "wl"
        have e : c = 37 := by omega
        subst e
        exact k
      · walk_at "wl"
        refine w_dec (fun hp3 => ?_) (fun hp3 => ?_)
        · walk_at "wl"
          refine w_decN (fun hp4 => ?_) (fun hp4 => ?_)
          · walk_at "wl"
            have e : sgV c = .non := by
              unfold sgV okc
              rw [if_neg]
              simp only [Bool.or_eq_true, Bool.and_eq_true, beq_iff_eq, decide_eq_true_eq, bne_iff_ne]
              omega
            rw [e] at k
            exact k
          · walk_at "wl"
            refine w_ixS (by decide) (signs_at c (by omega) (by omega) (by omega)) ?_
            have e : sgV c = .str ⟨#[c]⟩ := by
              unfold sgV okc
              rw [if_pos]
              simp only [Bool.or_eq_true, Bool.and_eq_true, beq_iff_eq, decide_eq_true_eq, bne_iff_ne]
              omega
            rw [e] at k
            exact k
        · walk_at "wl"
          have e : sgV c = .non := by
            unfold sgV okc
            rw [if_neg]
            simp only [Bool.or_eq_true, Bool.and_eq_true, beq_iff_eq, decide_eq_true_eq, bne_iff_ne]
            omega
          rw [e] at k
          exact k
end
end K47

namespace K47
open PySem PySem.Spec PyProof.Rows L2 Hf
local macro_rules | `(tactic| walk_at "hh") => `(tactic| first | assumption | exact Chg.at_ (by assumption) | (refine Ex.use (by assumption) ?_; walk_at "hh") | (refine Chg.use (by assumption) ?_ ?_; (walk_at "hne"); (walk_at "hh")))
local macro_rules | `(tactic| walk_at "hne") => `(tactic| first | assumption | exact Ne.symm (by assumption) | exact ne_fresh (by assumption) (by walk_at "hh") | exact (ne_fresh (by assumption) (by walk_at "hh")).symm)
local macro_rules | `(tactic| walk_at "hn") => `(tactic| first | assumption | exact Ex.fresh (by assumption) (by walk_at "hn") | exact Chg.fresh (by assumption) (by walk_at "hn"))
local macro_rules | `(tactic| walk_at "hx") => `(tactic| first | assumption | exact Ex.refl _ | (refine Ex.trans ?_ (by assumption); walk_at "hx") | (refine Chg.ex ?_ (by assumption) ?_; (walk_at "hx"); (walk_at "hn")))
local macro_rules | `(tactic| walk_at "hs") => `(tactic| first | assumption | exact SqL.of (by walk_at "hh") | exact Ex.l (by walk_at "hx") (by assumption) | (refine Chg.l (by assumption) ?_ ?_; (walk_at "hne"); (walk_at "hs")))
local macro_rules | `(tactic| walk_at "ht") => `(tactic| first | assumption | exact SqT.of (by walk_at "hh") | exact Ex.t (by walk_at "hx") (by assumption) | (refine Chg.t (by assumption) ?_ ?_; (walk_at "hne"); (walk_at "ht")))
local macro_rules | `(tactic| walk_at "sz") => `(tactic| first | decide | omega | (simp only [List.length_append, List.length_cons, List.length_nil, List.length_map, List.length_reverse] <;> omega))
local macro_rules | `(tactic| walk_at "cm") => `(tactic| first | exact .inr ⟨by decide, by decide⟩ | exact .inl ⟨by decide, by decide⟩ | exact .inr ⟨by omega, by omega⟩ | exact .inl ⟨by omega, by omega⟩)
local macro_rules | `(tactic| walk_at "do") => `(tactic| first | decide | omega)
local macro_rules | `(tactic| walk_at "ws") => `(tactic| first
  | ((with_reducible refine' w_var ?h ?_); (case h => exact rfl)) | with_reducible refine' w_c ?_ | with_reducible refine' w_op ?_ | with_reducible refine' w_seq ?_ | with_reducible refine' w_asg ?_ | with_reducible refine' w_gName ?_ | ((with_reducible show Ends.nx _ _ _); dsimp only) | with_reducible refine' w_cons ?_ | with_reducible refine' w_nil ?_ | with_reducible refine' w_cb ?_ | with_reducible refine' w_cal ?_
  | with_reducible refine' w_drop ?_ | with_reducible refine' w_ret ?_ | with_reducible refine' w_ifS ?_ | with_reducible refine' w_test ?_ | with_reducible refine' w_bl ?_ | with_reducible refine' w_next ?_
  | with_reducible refine' w_addI ?_ | with_reducible refine' w_subI ?_ | with_reducible refine' w_eqI ?_ | with_reducible refine' w_neI ?_ | with_reducible refine' w_lt ?_ | with_reducible refine' w_le ?_ | with_reducible refine' w_gt ?_ | with_reducible refine' w_ge ?_ | with_reducible refine' w_eqS ?_ | with_reducible refine' w_neS ?_ | with_reducible refine' isN_I ?_ | with_reducible refine' isN_S ?_ | with_reducible refine' isN_B ?_ | with_reducible refine' isN_R ?_ | with_reducible refine' isN_N ?_ | with_reducible refine' isNot_I ?_ | with_reducible refine' isNot_S ?_ | with_reducible refine' isNot_B ?_ | with_reducible refine' isNot_R ?_ | with_reducible refine' isNot_N ?_ | with_reducible refine' w_isN ?_ | with_reducible refine' w_isNotN ?_ | with_reducible refine' w_ord1 ?_
  | ((with_reducible refine' w_modI ?h ?_); (case h => walk_at "do")) | ((with_reducible refine' w_divI ?h ?h2 ?_); (case h => walk_at "do"); (case h2 => walk_at "do")) | ((with_reducible refine' w_mulI ?h ?_); (case h => walk_at "cm")) | with_reducible refine' w_negI ?_ | with_reducible refine' w_un ?_
  | with_reducible refine' w_intI ?_ | with_reducible refine' w_intB ?_ | with_reducible refine' w_abs ?_ | with_reducible refine' w_not ?_ | with_reducible refine' w_and ?_ | with_reducible refine' w_or ?_ | with_reducible refine' w_if ?_ | with_reducible refine' w_notV ?_ | with_reducible refine' w_andV ?_ | with_reducible refine' w_orV ?_ | with_reducible refine' w_chain ?_
  | with_reducible refine' w_tTr ?_ | with_reducible refine' w_trB ?_ | with_reducible refine' w_trI ?_ | with_reducible refine' w_trN ?_ | with_reducible refine' w_tB ?_ | ((with_reducible refine' w_augI ?h ?_); (case h => exact rfl)) | with_reducible refine' w_int ?_
  | with_reducible refine' w_lst ?_ | with_reducible refine' w_tup ?_ | ((with_reducible refine' w_newL ?h ?_); (case h => walk_at "sz")) | ((with_reducible refine' w_newT ?h ?_); (case h => walk_at "sz"))
  | with_reducible refine' w_sl ?_ | with_reducible refine' w_noPart ?_ | with_reducible refine' w_part ?_ | with_reducible refine' w_partI ?_ | with_reducible refine' w_bm0 ?_ | with_reducible refine' w_bm ?_ | with_reducible refine' w_sub ?_ | with_reducible refine' w_gCons ?_ | with_reducible refine' w_gNil ?_
  | ((with_reducible refine' w_ixL ?h ?h2 ?_); (case h => walk_at "hs"); (case h2 => first | exact rfl | exact atI_last)) | ((with_reducible refine' w_ixT ?h ?h2 ?_); (case h => walk_at "ht"); (case h2 => exact rfl))
  | ((with_reducible refine' w_lenL ?h ?_); (case h => walk_at "hs")) | ((with_reducible refine' w_lenT ?h ?_); (case h => walk_at "ht"))
  | ((with_reducible refine' w_tyL ?h ?_); (case h => walk_at "hh")) | with_reducible refine' w_tyS ?_ | ((with_reducible refine' w_append ?h ?h2 ?_); (case h => walk_at "hh"); (case h2 => walk_at "sz"))
  | ((with_reducible show Ends.rt _ _ _); dsimp only) | ((with_reducible show Ends.bk _ _ _); dsimp only) | ((with_reducible show Ends.ct _ _ _); dsimp only) | with_reducible refine' w_break ?_ | with_reducible refine' w_cont ?_ | with_reducible refine' w_retN ?_
  | with_reducible refine' w_for ?_ | with_reducible refine' w_lc ?_ | with_reducible refine' w_iAny ?_ | with_reducible refine' w_iRng1 ?_ | with_reducible refine' w_iRng2 ?_ | with_reducible refine' w_iEnum ?_ | with_reducible refine' w_iZip ?_ | with_reducible refine' w_iRev ?_
  | ((with_reducible refine' w_rng ?h ?h2 ?_); (case h => walk_at "do"); (case h2 => walk_at "do")) | ((with_reducible refine' w_rng2 ?h ?h2 ?h3 ?h4 ?_); (case h => walk_at "do"); (case h2 => walk_at "do"); (case h3 => walk_at "do"); (case h4 => walk_at "do"))
  | ((with_reducible refine' w_itL ?h ?_); (case h => walk_at "hs")) | ((with_reducible refine' w_itT ?h ?_); (case h => walk_at "ht")) | with_reducible refine' w_itS ?_ | ((with_reducible refine' w_itRL ?h ?_); (case h => walk_at "hs")) | ((with_reducible refine' w_itRT ?h ?_); (case h => walk_at "ht"))
  | ((with_reducible refine' w_itEn ?h ?_); (case h => walk_at "hs")) | ((with_reducible refine' w_itZ ?h ?h2 ?_); (case h => walk_at "hs"); (case h2 => walk_at "hs"))
  | ((with_reducible show wipe _ _ = wipe _ _ ∧ _); refine ⟨rfl, ?_⟩) | with_reducible refine' w_yes1 ?_ | with_reducible refine' w_whT ?_
  | with_reducible refine' isI_int ?_ | with_reducible refine' isI_bool ?_ | with_reducible refine' isI_str ?_ | with_reducible refine' isI_tuple ?_ | with_reducible refine' isI_list ?_
  | with_reducible refine' isS_int ?_ | with_reducible refine' isS_bool ?_ | with_reducible refine' isS_str ?_ | with_reducible refine' isS_tuple ?_ | with_reducible refine' isS_list ?_
  | with_reducible refine' isN_int ?_ | with_reducible refine' isN_bool ?_ | with_reducible refine' isN_str ?_ | with_reducible refine' isN_tuple ?_ | with_reducible refine' isN_list ?_
  | with_reducible refine' isB_int ?_ | with_reducible refine' isB_bool ?_ | with_reducible refine' isB_str ?_ | with_reducible refine' isB_tuple ?_ | with_reducible refine' isB_list ?_
  | ((with_reducible refine' isT_int ?h ?_); (case h => walk_at "ht")) | ((with_reducible refine' isT_bool ?h ?_); (case h => walk_at "ht")) | ((with_reducible refine' isT_str ?h ?_); (case h => walk_at "ht")) | ((with_reducible refine' isT_tuple ?h ?_); (case h => walk_at "ht")) | ((with_reducible refine' isT_list ?h ?_); (case h => walk_at "ht"))
  | ((with_reducible refine' isL_int ?h ?_); (case h => walk_at "hs")) | ((with_reducible refine' isL_bool ?h ?_); (case h => walk_at "hs")) | ((with_reducible refine' isL_str ?h ?_); (case h => walk_at "hs")) | ((with_reducible refine' isL_tuple ?h ?_); (case h => walk_at "hs")) | ((with_reducible refine' isL_list ?h ?_); (case h => walk_at "hs"))
  | ((with_reducible refine' w_popC ?h ?_); (case h => walk_at "hh")) | ((with_reducible refine' w_tuple ?h ?_); (case h => walk_at "hs"))
  | with_reducible refine' w_snoc ?_ | with_reducible refine' w_snocN ?_ | with_reducible refine' w_conz ?_ | with_reducible refine' w_conzN ?_ | with_reducible refine' w_nilz ?_ | with_reducible refine' w_nilzN ?_
  | ((with_reducible refine' w_gTup ?h ?h2 ?_); (case h => walk_at "ht"); (case h2 => exact rfl))
  | ((with_reducible refine' w_powI ?h ?_); (case h => exact ⟨by decide, by decide, by decide⟩))
  | ((with_reducible refine' w_setL ?h ?h2 ?_); (case h => walk_at "hh"); (case h2 => exact rfl))
  | with_reducible refine' w_listRev ?_ | ((with_reducible refine' w_lRev ?h ?_); (case h => walk_at "ht"))
  | ((with_reducible refine' w_slL ?h ?_); (case h => walk_at "hs")) | ((with_reducible refine' w_list ?h ?_); (case h => walk_at "hs")) | ((with_reducible refine' w_extend ?h ?h2 ?h3 ?_); (case h => walk_at "hh"); (case h2 => walk_at "hh"); (case h3 => walk_at "sz"))
  | ((with_reducible refine' w_trL ?h ?_); (case h => walk_at "hs")) | ((with_reducible refine' w_trT ?h ?_); (case h => walk_at "ht"))
  | ((with_reducible refine' w_addL ?h ?h2 ?h3 ?_); (case h => walk_at "hh"); (case h2 => walk_at "hh"); (case h3 => walk_at "sz"))
  | ((with_reducible refine' w_eqN ?h ?h2 ?_); (case h => walk_at "hs"); (case h2 => walk_at "hs")) | ((with_reducible refine' w_neN ?h ?h2 ?_); (case h => walk_at "hs"); (case h2 => walk_at "hs"))
  | with_reducible refine' w_nt ?_ | with_reducible refine' w_nf ?_
  | with_reducible refine' iteT ?_ | with_reducible refine' iteF ?_)
local macro_rules | `(tactic| walk_at "wl") => `(tactic| repeat (walk_at "ws"))
section
variable {P : Program} {w : World} {K : PySem.W.Frag} {mg : Str → Option Value} {base : Heap} {f : Addr} {fd : FuncData}
theorem ok_pack_plain (T : Tx K mg) (F : FunD K "pack_plain" "pack_plain" (defArgs s_pack_plain) (defBody s_pack_plain) (defScope s_pack_plain) [] [] f fd) (G_is_integer : Fn P w K mg base 1 "is_integer" (spIsI K)) (G_low_octets : Fn P w K mg base 1 "low_octets" spLow) (G_size_octets : Fn P w K mg base 1 "size_octets" spSize) : FnOkR P w K mg base 2 f fd ["data"] (spPlainO K) := by
  refine okR F sc_pack_plain (fun vs H Q E h => ?_) (fun cdv A outer s H vs Q E hr h => ?_)
  · obtain ⟨v, d, rfl, _⟩ := h
    rfl
  · obtain ⟨v, d, rfl, hd, hg, ht, k⟩ := h
    refine ⟨_, (pss_cons (ps_if (pt_cmpR opIs (pv 0) pe_non (nomark _)) (pss_one (ps_ret (pe_lst (pa_cons (pe_ci rfl T.c_NOTHING) pa_nil)))) pss_nil)
      (pss_cons (ps_if (trK (K := K) (pe_f G_is_integer hr (by omega) rfl (fun σ => px (takes_of rfl rfl rfl rfl) σ) (pa_cons (pv 0) pa_nil))) (pss_cons (ps_set (i := 1) sc_pack_plain.nd rfl (Or.inl rfl) (pe_f G_size_octets hr (by omega) rfl (fun σ => px (takes_of rfl rfl rfl rfl) σ) (pa_cons (pe_callB cAbs (by rfl) T.b_abs bt_abs (pa_cons (pv 0) pa_nil)) pa_nil)))
      (pss_one (ps_ret (pe_op (opAddK (K := K)) (pe_lst (pa_cons (pe_ifExp (pt_cmpR opLt (pv 0) pe_int (nomark _)) (pe_ci rfl T.c_MINUS) (pe_ci rfl T.c_NUMBER)) (pa_cons (pe_callB (cLenK (K := K)) (by rfl) T.b_len PySem.boot_len (pa_cons (pv 1) pa_nil)) pa_nil))) (pv 1))))) pss_nil)
      (pss_one (ps_ret (pe_op (opAddK (K := K)) (pe_op (opAddK (K := K)) (pe_lst (pa_cons (pe_ci rfl T.c_TEXT) pa_nil)) (pe_f G_low_octets hr (by omega) rfl (fun σ => px (takes_of rfl rfl rfl rfl) σ) (pa_cons (pe_callB (cLenK (K := K)) (by rfl) T.b_len PySem.boot_len (pa_cons (pv 0) pa_nil)) (pa_cons pe_int pa_nil)))) (pe_lc (own := [("sign", 2)]) rfl sc_pack_plain.nd (anyK (K := K) (pv 0)) (blkOk_by (own := [("sign", 2)]) (N := ["data", "octets", "sign"]) (sc := defScope s_pack_plain) (by decide +kernel)) (fun _ _ _ _ _ => (pg_name (i := 2) sc_pack_plain.nd rfl (Or.inl rfl))) (fun _ _ _ _ _ => pts_nil) (fun _ _ _ _ _ => (pe_callB cOrd (by rfl) T.b_ord bt_ord (pa_cons (pv 2) pa_nil))))))))), ?_⟩
    have hd0 := hd
    cases hd with
    | bl b => unfold good at hg; cases hg
    | lst h1 h2 => unfold good at hg; cases hg
    | tup h1 h2 => cases ht
    | non =>
      walk_at "wl"
      intro p H1 hp e1 h1
      walk_at "wl"
      exact k p H1 e1 hp h1
    | int i =>
      have hs : (sizeN i.natAbs).length ≤ 255 := by unfold good at hg; exact of_decide_eq_true hg
      have hv := vN_len (sizeN i.natAbs)
      walk_at "wl"
      refine ⟨_, _, rfl, hd0, hg, ?_⟩
      walk_at "wl"
      refine iteT ?_
      walk_at "wl"
      have e : (if i < 0 then -i else i) = ((i.natAbs : Nat) : Int) := by split <;> omega
      rw [e]
      refine ⟨_, rfl, by omega, ?_⟩
      intro p H1 e1 hp h1
      walk_at "wl"
      refine w_dec (fun hn => ?_) (fun hn => ?_)
      · walk_at "wl"
        intro p2 H2 hp2 e2 h2
        walk_at "wl"
        intro p3 H3 hp3 e3 h3
        walk_at "wl"
        refine k p3 H3 (by walk_at "hx") (by walk_at "hn") ?_
        rw [h3, hv]
        simp only [plainO]
        rw [if_pos hn]
        rfl
      · walk_at "wl"
        intro p2 H2 hp2 e2 h2
        walk_at "wl"
        intro p3 H3 hp3 e3 h3
        walk_at "wl"
        refine k p3 H3 (by walk_at "hx") (by walk_at "hn") ?_
        rw [h3, hv]
        simp only [plainO]
        rw [if_neg hn]
        rfl
    | str z =>
      have hz : z.length ≤ 65535 ∧ z.cps.toList.all okc = true := by
        unfold good at hg
        rw [Bool.and_eq_true] at hg
        exact ⟨of_decide_eq_true hg.1, hg.2⟩
      have hl : z.cps.toList.length = z.length := by rw [Array.length_toList]; rfl
      walk_at "wl"
      refine ⟨_, _, rfl, hd0, hg, ?_⟩
      walk_at "wl"
      refine iteF ?_
      walk_at "wl"
      intro p1 H1 hp1 e1 h1
      walk_at "wl"
      refine w_lenS (by omega) ?_
      walk_at "wl"
      refine ⟨z.length, 2, rfl, by omega, ?_⟩
      intro p2 H2 e2 hp2 h2
      walk_at "wl"
      have hv2 := vN_len (lowN z.length 2)
      have hl2 := lowN_len z.length 2
      refine w_addL (by walk_at "hh") h2 (by walk_at "sz") ?_
      intro p3 H3 hp3 e3 h3
      walk_at "wl"
      refine w_lcVS (R := fun i => vN (z.cps.toList.take i)) rfl ?_ ?_
      · intro Dl i c H4 hD hc hi e4 h4
        walk_at "wl"
        refine lcV hD e4 h4 ?_ ?_
        · show (vN (z.cps.toList.take i)).length < 1000000
          rw [vN_len, List.length_take]
          omega
        · show vN (z.cps.toList.take (i + 1)) = vN (z.cps.toList.take i) ++ [.int (c : Nat)]
          have hc2 : z.cps.toList[i]? = some c := by rw [← hc]; exact Array.getElem?_toList ..
          rw [List.take_add_one, hc2, vN_app]
          rfl
      · intro p4 H4 hp4 e4 h4
        have h4' : H4 p4 = some (.lst (vN z.cps.toList)) := by
          rw [h4]
          show some (HO.lst (vN (z.cps.toList.take z.cps.size))) = _
          rw [List.take_of_length_le (by rw [Array.length_toList]; exact Nat.le_refl _)]
        have hv4 := vN_len z.cps.toList
        refine w_addL (by walk_at "hh") h4' (by walk_at "sz") ?_
        intro p5 H5 hp5 e5 h5
        walk_at "wl"
        refine k p5 H5 (by walk_at "hx") (by walk_at "hn") ?_
        rw [h5]
        show some (HO.lst ((vN [3] ++ vN (lowN z.length 2)) ++ vN z.cps.toList)) = some (HO.lst (vN (3 :: (lowN z.length 2 ++ z.cps.toList))))
        rw [← vN_app, ← vN_app]
        rfl
end
end K47

namespace K47
open PySem PySem.Spec PyProof.Rows L2 Hf
local macro_rules | `(tactic| walk_at "hh") => `(tactic| first | assumption | exact Chg.at_ (by assumption) | (refine Ex.use (by assumption) ?_; walk_at "hh") | (refine Chg.use (by assumption) ?_ ?_; (walk_at "hne"); (walk_at "hh")))
local macro_rules | `(tactic| walk_at "hne") => `(tactic| first | assumption | exact Ne.symm (by assumption) | exact ne_fresh (by assumption) (by walk_at "hh") | exact (ne_fresh (by assumption) (by walk_at "hh")).symm)
local macro_rules | `(tactic| walk_at "hn") => `(tactic| first | assumption | exact Ex.fresh (by assumption) (by walk_at "hn") | exact Chg.fresh (by assumption) (by walk_at "hn"))
local macro_rules | `(tactic| walk_at "hx") => `(tactic| first | assumption | exact Ex.refl _ | (refine Ex.trans ?_ (by assumption); walk_at "hx") | (refine Chg.ex ?_ (by assumption) ?_; (walk_at "hx"); (walk_at "hn")))
local macro_rules | `(tactic| walk_at "hs") => `(tactic| first | assumption | exact SqL.of (by walk_at "hh") | exact Ex.l (by walk_at "hx") (by assumption) | (refine Chg.l (by assumption) ?_ ?_; (walk_at "hne"); (walk_at "hs")))
local macro_rules | `(tactic| walk_at "ht") => `(tactic| first | assumption | exact SqT.of (by walk_at "hh") | exact Ex.t (by walk_at "hx") (by assumption) | (refine Chg.t (by assumption) ?_ ?_; (walk_at "hne"); (walk_at "ht")))
local macro_rules | `(tactic| walk_at "sz") => `(tactic| first | decide | omega | (simp only [List.length_append, List.length_cons, List.length_nil, List.length_map, List.length_reverse] <;> omega))
local macro_rules | `(tactic| walk_at "cm") => `(tactic| first | exact .inr ⟨by decide, by decide⟩ | exact .inl ⟨by decide, by decide⟩ | exact .inr ⟨by omega, by omega⟩ | exact .inl ⟨by omega, by omega⟩)
local macro_rules | `(tactic| walk_at "do") => `(tactic| first | decide | omega)
local macro_rules | `(tactic| walk_at "ws") => `(tactic| first
  | ((with_reducible refine' w_var ?h ?_); (case h => exact rfl)) | with_reducible refine' w_c ?_ | with_reducible refine' w_op ?_ | with_reducible refine' w_seq ?_ | with_reducible refine' w_asg ?_ | with_reducible refine' w_gName ?_ | ((with_reducible show Ends.nx _ _ _); dsimp only) | with_reducible refine' w_cons ?_ | with_reducible refine' w_nil ?_ | with_reducible refine' w_cb ?_ | with_reducible refine' w_cal ?_
  | with_reducible refine' w_drop ?_ | with_reducible refine' w_ret ?_ | with_reducible refine' w_ifS ?_ | with_reducible refine' w_test ?_ | with_reducible refine' w_bl ?_ | with_reducible refine' w_next ?_
  | with_reducible refine' w_addI ?_ | with_reducible refine' w_subI ?_ | with_reducible refine' w_eqI ?_ | with_reducible refine' w_neI ?_ | with_reducible refine' w_lt ?_ | with_reducible refine' w_le ?_ | with_reducible refine' w_gt ?_ | with_reducible refine' w_ge ?_ | with_reducible refine' w_eqS ?_ | with_reducible refine' w_neS ?_ | with_reducible refine' isN_I ?_ | with_reducible refine' isN_S ?_ | with_reducible refine' isN_B ?_ | with_reducible refine' isN_R ?_ | with_reducible refine' isN_N ?_ | with_reducible refine' isNot_I ?_ | with_reducible refine' isNot_S ?_ | with_reducible refine' isNot_B ?_ | with_reducible refine' isNot_R ?_ | with_reducible refine' isNot_N ?_ | with_reducible refine' w_isN ?_ | with_reducible refine' w_isNotN ?_ | with_reducible refine' w_ord1 ?_
  | ((with_reducible refine' w_modI ?h ?_); (case h => walk_at "do")) | ((with_reducible refine' w_divI ?h ?h2 ?_); (case h => walk_at "do"); (case h2 => walk_at "do")) | ((with_reducible refine' w_mulI ?h ?_); (case h => walk_at "cm")) | with_reducible refine' w_negI ?_ | with_reducible refine' w_un ?_
  | with_reducible refine' w_intI ?_ | with_reducible refine' w_intB ?_ | with_reducible refine' w_abs ?_ | with_reducible refine' w_not ?_ | with_reducible refine' w_and ?_ | with_reducible refine' w_or ?_ | with_reducible refine' w_if ?_ | with_reducible refine' w_notV ?_ | with_reducible refine' w_andV ?_ | with_reducible refine' w_orV ?_ | with_reducible refine' w_chain ?_
  | with_reducible refine' w_tTr ?_ | with_reducible refine' w_trB ?_ | with_reducible refine' w_trI ?_ | with_reducible refine' w_trN ?_ | with_reducible refine' w_tB ?_ | ((with_reducible refine' w_augI ?h ?_); (case h => exact rfl)) | with_reducible refine' w_int ?_
  | with_reducible refine' w_lst ?_ | with_reducible refine' w_tup ?_ | ((with_reducible refine' w_newL ?h ?_); (case h => walk_at "sz")) | ((with_reducible refine' w_newT ?h ?_); (case h => walk_at "sz"))
  | with_reducible refine' w_sl ?_ | with_reducible refine' w_noPart ?_ | with_reducible refine' w_part ?_ | with_reducible refine' w_partI ?_ | with_reducible refine' w_bm0 ?_ | with_reducible refine' w_bm ?_ | with_reducible refine' w_sub ?_ | with_reducible refine' w_gCons ?_ | with_reducible refine' w_gNil ?_
  | ((with_reducible refine' w_ixL ?h ?h2 ?_); (case h => walk_at "hs"); (case h2 => first | exact rfl | exact atI_last)) | ((with_reducible refine' w_ixT ?h ?h2 ?_); (case h => walk_at "ht"); (case h2 => exact rfl))
  | ((with_reducible refine' w_lenL ?h ?_); (case h => walk_at "hs")) | ((with_reducible refine' w_lenT ?h ?_); (case h => walk_at "ht"))
  | ((with_reducible refine' w_tyL ?h ?_); (case h => walk_at "hh")) | with_reducible refine' w_tyS ?_ | ((with_reducible refine' w_append ?h ?h2 ?_); (case h => walk_at "hh"); (case h2 => walk_at "sz"))
  | ((with_reducible show Ends.rt _ _ _); dsimp only) | ((with_reducible show Ends.bk _ _ _); dsimp only) | ((with_reducible show Ends.ct _ _ _); dsimp only) | with_reducible refine' w_break ?_ | with_reducible refine' w_cont ?_ | with_reducible refine' w_retN ?_
  | with_reducible refine' w_for ?_ | with_reducible refine' w_lc ?_ | with_reducible refine' w_iAny ?_ | with_reducible refine' w_iRng1 ?_ | with_reducible refine' w_iRng2 ?_ | with_reducible refine' w_iEnum ?_ | with_reducible refine' w_iZip ?_ | with_reducible refine' w_iRev ?_
  | ((with_reducible refine' w_rng ?h ?h2 ?_); (case h => walk_at "do"); (case h2 => walk_at "do")) | ((with_reducible refine' w_rng2 ?h ?h2 ?h3 ?h4 ?_); (case h => walk_at "do"); (case h2 => walk_at "do"); (case h3 => walk_at "do"); (case h4 => walk_at "do"))
  | ((with_reducible refine' w_itL ?h ?_); (case h => walk_at "hs")) | ((with_reducible refine' w_itT ?h ?_); (case h => walk_at "ht")) | with_reducible refine' w_itS ?_ | ((with_reducible refine' w_itRL ?h ?_); (case h => walk_at "hs")) | ((with_reducible refine' w_itRT ?h ?_); (case h => walk_at "ht"))
  | ((with_reducible refine' w_itEn ?h ?_); (case h => walk_at "hs")) | ((with_reducible refine' w_itZ ?h ?h2 ?_); (case h => walk_at "hs"); (case h2 => walk_at "hs"))
  | ((with_reducible show wipe _ _ = wipe _ _ ∧ _); refine ⟨rfl, ?_⟩) | with_reducible refine' w_yes1 ?_ | with_reducible refine' w_whT ?_
  | with_reducible refine' isI_int ?_ | with_reducible refine' isI_bool ?_ | with_reducible refine' isI_str ?_ | with_reducible refine' isI_tuple ?_ | with_reducible refine' isI_list ?_
  | with_reducible refine' isS_int ?_ | with_reducible refine' isS_bool ?_ | with_reducible refine' isS_str ?_ | with_reducible refine' isS_tuple ?_ | with_reducible refine' isS_list ?_
  | with_reducible refine' isN_int ?_ | with_reducible refine' isN_bool ?_ | with_reducible refine' isN_str ?_ | with_reducible refine' isN_tuple ?_ | with_reducible refine' isN_list ?_
  | with_reducible refine' isB_int ?_ | with_reducible refine' isB_bool ?_ | with_reducible refine' isB_str ?_ | with_reducible refine' isB_tuple ?_ | with_reducible refine' isB_list ?_
  | ((with_reducible refine' isT_int ?h ?_); (case h => walk_at "ht")) | ((with_reducible refine' isT_bool ?h ?_); (case h => walk_at "ht")) | ((with_reducible refine' isT_str ?h ?_); (case h => walk_at "ht")) | ((with_reducible refine' isT_tuple ?h ?_); (case h => walk_at "ht")) | ((with_reducible refine' isT_list ?h ?_); (case h => walk_at "ht"))
  | ((with_reducible refine' isL_int ?h ?_); (case h => walk_at "hs")) | ((with_reducible refine' isL_bool ?h ?_); (case h => walk_at "hs")) | ((with_reducible refine' isL_str ?h ?_); (case h => walk_at "hs")) | ((with_reducible refine' isL_tuple ?h ?_); (case h => walk_at "hs")) | ((with_reducible refine' isL_list ?h ?_); (case h => walk_at "hs"))
  | ((with_reducible refine' w_popC ?h ?_); (case h => walk_at "hh")) | ((with_reducible refine' w_tuple ?h ?_); (case h => walk_at "hs"))
  | with_reducible refine' w_snoc ?_ | with_reducible refine' w_snocN ?_ | with_reducible refine' w_conz ?_ | with_reducible refine' w_conzN ?_ | with_reducible refine' w_nilz ?_ | with_reducible refine' w_nilzN ?_
  | ((with_reducible refine' w_gTup ?h ?h2 ?_); (case h => walk_at "ht"); (case h2 => exact rfl))
  | ((with_reducible refine' w_powI ?h ?_); (case h => exact ⟨by decide, by decide, by decide⟩))
  | ((with_reducible refine' w_setL ?h ?h2 ?_); (case h => walk_at "hh"); (case h2 => exact rfl))
  | with_reducible refine' w_listRev ?_ | ((with_reducible refine' w_lRev ?h ?_); (case h => walk_at "ht"))
  | ((with_reducible refine' w_slL ?h ?_); (case h => walk_at "hs")) | ((with_reducible refine' w_list ?h ?_); (case h => walk_at "hs")) | ((with_reducible refine' w_extend ?h ?h2 ?h3 ?_); (case h => walk_at "hh"); (case h2 => walk_at "hh"); (case h3 => walk_at "sz"))
  | ((with_reducible refine' w_trL ?h ?_); (case h => walk_at "hs")) | ((with_reducible refine' w_trT ?h ?_); (case h => walk_at "ht"))
  | ((with_reducible refine' w_addL ?h ?h2 ?h3 ?_); (case h => walk_at "hh"); (case h2 => walk_at "hh"); (case h3 => walk_at "sz"))
  | ((with_reducible refine' w_eqN ?h ?h2 ?_); (case h => walk_at "hs"); (case h2 => walk_at "hs")) | ((with_reducible refine' w_neN ?h ?h2 ?_); (case h => walk_at "hs"); (case h2 => walk_at "hs"))
  | with_reducible refine' w_nt ?_ | with_reducible refine' w_nf ?_
  | with_reducible refine' iteT ?_ | with_reducible refine' iteF ?_)
local macro_rules | `(tactic| walk_at "wl") => `(tactic| repeat (walk_at "ws"))
def spPack (K : PySem.W.Frag) : Sp := fun vs H Q _ => ∃ (v : V) (d : PyData), vs = [v] ∧ Dp K H v d ∧ good d = true ∧ (packD d).length ≤ 100000 ∧ RetL (vN (packD d)) H Q
theorem goods_rev : ∀ ds : List PyData, goods ds.reverse = goods ds
  | [] => rfl
  | d :: ds => by rw [List.reverse_cons, goods_app, goods_rev ds, goods_cons, goods_cons, Bool.and_comm]; unfold goods; rw [Bool.and_true]
theorem packDs_len : ∀ ds : List PyData, goods ds = true → ds.length ≤ (packDs ds).length
  | [], _ => Nat.zero_le _
  | d :: ds, h => by
    rw [goods_cons, Bool.and_eq_true] at h
    have h1 := packDs_len ds h.2
    have h2 := packD_ne h.1
    have h3 : 0 < (packD d).length := List.length_pos_iff.mpr h2
    rw [packDs_cons, List.length_append, List.length_cons]
    omega
section
variable {P : Program} {w : World} {K : PySem.W.Frag} {mg : Str → Option Value} {base : Heap} {f : Addr} {fd : FuncData}
theorem ok_pack (T : Tx K mg) (F : FunD K "pack" "pack" (defArgs s_pack) (defBody s_pack) (defScope s_pack) [] [] f fd) (G_low_octets : Fn P w K mg base 1 "low_octets" spLow) (G_pack_plain : Fn P w K mg base 2 "pack_plain" (spPlainO K)) : FnOkR P w K mg base 3 f fd ["data"] (spPack K) := by
  refine okR F sc_pack (fun vs H Q E h => ?_) (fun cdv A outer s H vs Q E hr h => ?_)
  · obtain ⟨v, d, rfl, _⟩ := h
    rfl
  · obtain ⟨v, d, rfl, hd, hg, hsz, k⟩ := h
    refine ⟨_, (pss_cons (ps_set (i := 1) sc_pack.nd rfl (Or.inl rfl) (pe_lst pa_nil))
      (pss_cons (ps_set (i := 2) sc_pack.nd rfl (Or.inl rfl) (pe_lst (pa_cons (pv 0) pa_nil)))
      (pss_cons (ps_while (passes_of rfl) (trK (K := K) (pv 2)) (pss_cons (ps_set (i := 3) sc_pack.nd rfl (Or.inl rfl) (asK (K := K) (fun K => tBM0 K _ _ _) (pe_bm0 PySem.F.plainAttrs_list PySem.F.slot_list_pop PySem.F.type_list_pop mt_pop (pv 2))))
      (pss_one (ps_if (trK (K := K) (pe_callB (cIsiK (K := K)) (by rfl) T.b_isinstance bt_isinstance (pa_cons (pv 3) (pa_cons (pe_bltn (v := .ty "tuple") (by rfl) T.b_tuple bt_tuple rfl) pa_nil)))) (pss_cons (ps_expr (asK (K := K) (fun K => tBM K _ _ _ _) (pe_bm PySem.F.plainAttrs_list PySem.F.slot_list_extend PySem.F.type_list_extend mt_extend (pv 1) (pa_cons (pe_op (opAddK (K := K)) (pe_lst (pa_cons (pe_ci rfl T.c_MANY) pa_nil)) (pe_f G_low_octets hr (by omega) rfl (fun σ => px (takes_of rfl rfl rfl rfl) σ) (pa_cons (pe_callB (cLenK (K := K)) (by rfl) T.b_len PySem.boot_len (pa_cons (pv 3) pa_nil)) (pa_cons pe_int pa_nil)))) pa_nil))))
      (pss_one (ps_expr (asK (K := K) (fun K => tBM K _ _ _ _) (pe_bm PySem.F.plainAttrs_list PySem.F.slot_list_extend PySem.F.type_list_extend mt_extend (pv 2) (pa_cons (asK (K := K) (fun K => tListRev K _) (pe_listRev rfl (by rfl) T.b_list (by rfl) T.b_reversed (pv 3))) pa_nil)))))) (pss_one (ps_expr (asK (K := K) (fun K => tBM K _ _ _ _) (pe_bm PySem.F.plainAttrs_list PySem.F.slot_list_extend PySem.F.type_list_extend mt_extend (pv 1) (pa_cons (pe_f G_pack_plain hr (by omega) rfl (fun σ => px (takes_of rfl rfl rfl rfl) σ) (pa_cons (pv 3) pa_nil)) pa_nil)))))))))
      (pss_one (ps_ret (pv 1)))))), ?_⟩
    walk_at "wl"
    intro pf H1 hpf e1 h1
    walk_at "wl"
    intro pl H2 hpl e2 h2
    have hne : pl ≠ pf := fun e => by subst e; rw [hpl] at h1; cases h1
    have hpl0 : H pl = none := e1.fresh hpl
    walk_at "wl"
    refine w_while (fun m σ H' => ∃ fs ds us lv, σ = [some v, some (.ref pf), some (.ref pl), lv] ∧ Ex H H' ∧ H' pf = some (.lst (vN fs)) ∧ H' pl = some (.lst us) ∧ DpAll K H us ds ∧ goods ds = true ∧ fs ++ packDs ds.reverse = packD d ∧ m = (packDs ds.reverse).length)
      _ ⟨[], [d], [v], none, rfl, e1.trans e2, e2.use h1, h2, .cons hd .nil, by rw [goods_cons, hg]; rfl, by rw [List.reverse_singleton, packDs_cons, packDs_nil]; simp, rfl⟩ ?_
    rintro m σ H3 ⟨fs, ds, us, lv, rfl, e3, hf, hl, ha, hgs, hp, rfl⟩
    walk_at "wl"
    rcases List.eq_nil_or_concat us with rfl | ⟨us0, x, eu⟩
    · cases ha
      refine iteF ?_
      walk_at "wl"
      rw [List.reverse_nil, packDs_nil, List.append_nil] at hp
      rw [hp] at hf
      exact k pf H3 e3 hpf hf
    · rw [List.concat_eq_append] at eu
      subst eu
      obtain ⟨ds0, d1, rfl, ha0, hx⟩ := da_snoc ha
      rw [goods_app, Bool.and_eq_true, goods_cons, Bool.and_eq_true] at hgs
      obtain ⟨hg0, hg1, _⟩ := hgs
      rw [List.reverse_append, List.reverse_singleton, List.singleton_append, packDs_cons] at hp ⊢
      have hsz2 : fs.length + (packD d1).length + (packDs ds0.reverse).length ≤ 100000 := by
        have := congrArg List.length hp
        rw [List.length_append, List.length_append] at this
        omega
      have hl0 := packDs_len ds0.reverse (by rw [goods_rev]; exact hg0)
      rw [List.length_reverse] at hl0
      have hlu := da_len ha0
      have hvf := vN_len fs
      rw [show (!(us0 ++ [x]).isEmpty) = true by simp]
      refine iteT ?_
      walk_at "wl"
      intro H4 c4
      walk_at "wl"
      have plain : isTup d1 = false → ∀ {Qq : Prop}, (∀ {QV : VK} {EE : XK}, (∀ p H', Ex H4 H' → H4 p = none → H' p = some (.lst (vN (packD d1))) → QV (.ref p) H') → spPlainO K [x] H4 QV EE) := by
        intro ht _ QV EE kk
        refine ⟨x, d1, rfl, dp_ex (by walk_at "hx") hx, hg1, ht, ?_⟩
        intro p H' e' hp' h'
        rw [← packD_plain ht] at h'
        exact kk p H' e' hp' h'
      have fin : isTup d1 = false → ∀ p H5, Ex H4 H5 → H4 p = none → H5 p = some (.lst (vN (packD d1))) → ∀ H6, Chg H5 pf (.lst (vN fs ++ vN (packD d1))) H6 →
          ∃ m', m' < (packD d1 ++ packDs ds0.reverse).length ∧ ∃ fs' ds' us' lv', [some v, some (V.ref pf), some (V.ref pl), some x] = [some v, some (.ref pf), some (.ref pl), lv'] ∧ Ex H H6 ∧ H6 pf = some (.lst (vN fs')) ∧ H6 pl = some (.lst us') ∧ DpAll K H us' ds' ∧ goods ds' = true ∧ fs' ++ packDs ds'.reverse = packD d ∧ m' = (packDs ds'.reverse).length := by
        intro ht p H5 e5 hp5 h5 H6 c6
        refine ⟨_, ?_, fs ++ packD d1, ds0, us0, _, rfl, by walk_at "hx", by rw [vN_app]; exact c6.at_, ?_, ha0, hg0, by rw [List.append_assoc]; exact hp, rfl⟩
        · rw [List.length_append]
          have := List.length_pos_iff.mpr (packD_ne hg1)
          omega
        · exact c6.use hne (e5.use c4.at_)
      cases hx with
      | bl b => unfold good at hg1; cases hg1
      | lst h1 h2 => unfold good at hg1; cases hg1
      | tup hs ha1 =>
        rename_i a xs dd
        have hs4 : SqT K H4 a xs := by
          have e4 : Ex H H4 := by walk_at "hx"
          exact e4.t hs
        rw [good_tup, Bool.and_eq_true] at hg1
        rw [packD_tup] at hp hsz2 ⊢
        have hld := da_len ha1
        have hll := lowN_len dd.length 2
        have hvl := vN_len (lowN dd.length 2)
        simp only [List.length_cons, List.length_append] at hsz2
        have hl1 := packDs_len dd hg1.2
        walk_at "wl"
        intro p5 H5 hp5 e5 h5
        walk_at "wl"
        rw [hld]
        refine ⟨dd.length, 2, rfl, by omega, ?_⟩
        intro p6 H6 e6 hp6 h6
        walk_at "wl"
        intro p7 H7 hp7 e7 h7
        walk_at "wl"
        intro H8 c8
        have hs8 : SqT K H8 a xs := sqT_chg c8 (by walk_at "hh") (e7.t (e6.t (e5.t hs4)))
        walk_at "wl"
        intro p9 H9 hp9 e9 h9
        walk_at "wl"
        intro H10 c10
        walk_at "wl"
        refine ⟨_, ?_, fs ++ (4 :: lowN dd.length 2), ds0 ++ dd.reverse, us0 ++ xs.reverse, _, rfl, by walk_at "hx", ?_, c10.at_, da_app ha0 (da_rev ha1), by rw [goods_app, hg0, goods_rev, hg1.2]; rfl, ?_, rfl⟩
        · rw [List.reverse_append, List.reverse_reverse, packDs_app]
          simp only [List.length_cons, List.length_append]
          omega
        · rw [c10.use (Ne.symm hne) (e9.use c8.at_), vN_app, vN_cons]
          rfl
        · rw [List.reverse_append, List.reverse_reverse, packDs_app, ← hp]
          simp
      | non =>
        walk_at "wl"
        refine plain rfl (Qq := True) ?_
        intro p H5 e5 hp5 h5
        walk_at "wl"
        refine w_extend (e5.use (c4.use (Ne.symm hne) hf)) h5 (by rw [vN_len, vN_len]; omega) ?_
        intro H6 c6
        walk_at "wl"
        exact fin rfl p H5 e5 hp5 h5 H6 c6
      | int i =>
        walk_at "wl"
        refine plain rfl (Qq := True) ?_
        intro p H5 e5 hp5 h5
        walk_at "wl"
        refine w_extend (e5.use (c4.use (Ne.symm hne) hf)) h5 (by rw [vN_len, vN_len]; omega) ?_
        intro H6 c6
        walk_at "wl"
        exact fin rfl p H5 e5 hp5 h5 H6 c6
      | str z =>
        walk_at "wl"
        refine plain rfl (Qq := True) ?_
        intro p H5 e5 hp5 h5
        walk_at "wl"
        refine w_extend (e5.use (c4.use (Ne.symm hne) hf)) h5 (by rw [vN_len, vN_len]; omega) ?_
        intro H6 c6
        walk_at "wl"
        exact fin rfl p H5 e5 hp5 h5 H6 c6
end
end K47

namespace K47
open PySem PySem.Spec PyProof.Rows L2 Hf
local macro_rules | `(tactic| walk_at "hh") => `(tactic| first | assumption | exact Chg.at_ (by assumption) | (refine Ex.use (by assumption) ?_; walk_at "hh") | (refine Chg.use (by assumption) ?_ ?_; (walk_at "hne"); (walk_at "hh")))
local macro_rules | `(tactic| walk_at "hne") => `(tactic| first | assumption | exact Ne.symm (by assumption) | exact ne_fresh (by assumption) (by walk_at "hh") | exact (ne_fresh (by assumption) (by walk_at "hh")).symm)
local macro_rules | `(tactic| walk_at "hn") => `(tactic| first | assumption | exact Ex.fresh (by assumption) (by walk_at "hn") | exact Chg.fresh (by assumption) (by walk_at "hn"))
local macro_rules | `(tactic| walk_at "hx") => `(tactic| first | assumption | exact Ex.refl _ | (refine Ex.trans ?_ (by assumption); walk_at "hx") | (refine Chg.ex ?_ (by assumption) ?_; (walk_at "hx"); (walk_at "hn")))
local macro_rules | `(tactic| walk_at "hs") => `(tactic| first | assumption | exact SqL.of (by walk_at "hh") | exact Ex.l (by walk_at "hx") (by assumption) | (refine Chg.l (by assumption) ?_ ?_; (walk_at "hne"); (walk_at "hs")))
local macro_rules | `(tactic| walk_at "ht") => `(tactic| first | assumption | exact SqT.of (by walk_at "hh") | exact Ex.t (by walk_at "hx") (by assumption) | (refine Chg.t (by assumption) ?_ ?_; (walk_at "hne"); (walk_at "ht")))
local macro_rules | `(tactic| walk_at "sz") => `(tactic| first | decide | omega | (simp only [List.length_append, List.length_cons, List.length_nil, List.length_map, List.length_reverse] <;> omega))
local macro_rules | `(tactic| walk_at "cm") => `(tactic| first | exact .inr ⟨by decide, by decide⟩ | exact .inl ⟨by decide, by decide⟩ | exact .inr ⟨by omega, by omega⟩ | exact .inl ⟨by omega, by omega⟩)
local macro_rules | `(tactic| walk_at "do") => `(tactic| first | decide | omega)
local macro_rules | `(tactic| walk_at "ws") => `(tactic| first
  | ((with_reducible refine' w_var ?h ?_); (case h => exact rfl)) | with_reducible refine' w_c ?_ | with_reducible refine' w_op ?_ | with_reducible refine' w_seq ?_ | with_reducible refine' w_asg ?_ | with_reducible refine' w_gName ?_ | ((with_reducible show Ends.nx _ _ _); dsimp only) | with_reducible refine' w_cons ?_ | with_reducible refine' w_nil ?_ | with_reducible refine' w_cb ?_ | with_reducible refine' w_cal ?_
  | with_reducible refine' w_drop ?_ | with_reducible refine' w_ret ?_ | with_reducible refine' w_ifS ?_ | with_reducible refine' w_test ?_ | with_reducible refine' w_bl ?_ | with_reducible refine' w_next ?_
  | with_reducible refine' w_addI ?_ | with_reducible refine' w_subI ?_ | with_reducible refine' w_eqI ?_ | with_reducible refine' w_neI ?_ | with_reducible refine' w_lt ?_ | with_reducible refine' w_le ?_ | with_reducible refine' w_gt ?_ | with_reducible refine' w_ge ?_ | with_reducible refine' w_eqS ?_ | with_reducible refine' w_neS ?_ | with_reducible refine' isN_I ?_ | with_reducible refine' isN_S ?_ | with_reducible refine' isN_B ?_ | with_reducible refine' isN_R ?_ | with_reducible refine' isN_N ?_ | with_reducible refine' isNot_I ?_ | with_reducible refine' isNot_S ?_ | with_reducible refine' isNot_B ?_ | with_reducible refine' isNot_R ?_ | with_reducible refine' isNot_N ?_ | with_reducible refine' w_isN ?_ | with_reducible refine' w_isNotN ?_ | with_reducible refine' w_ord1 ?_
  | ((with_reducible refine' w_modI ?h ?_); (case h => walk_at "do")) | ((with_reducible refine' w_divI ?h ?h2 ?_); (case h => walk_at "do"); (case h2 => walk_at "do")) | ((with_reducible refine' w_mulI ?h ?_); (case h => walk_at "cm")) | with_reducible refine' w_negI ?_ | with_reducible refine' w_un ?_
  | with_reducible refine' w_intI ?_ | with_reducible refine' w_intB ?_ | with_reducible refine' w_abs ?_ | with_reducible refine' w_not ?_ | with_reducible refine' w_and ?_ | with_reducible refine' w_or ?_ | with_reducible refine' w_if ?_ | with_reducible refine' w_notV ?_ | with_reducible refine' w_andV ?_ | with_reducible refine' w_orV ?_ | with_reducible refine' w_chain ?_
  | with_reducible refine' w_tTr ?_ | with_reducible refine' w_trB ?_ | with_reducible refine' w_trI ?_ | with_reducible refine' w_trN ?_ | with_reducible refine' w_tB ?_ | ((with_reducible refine' w_augI ?h ?_); (case h => exact rfl)) | with_reducible refine' w_int ?_
  | with_reducible refine' w_lst ?_ | with_reducible refine' w_tup ?_ | ((with_reducible refine' w_newL ?h ?_); (case h => walk_at "sz")) | ((with_reducible refine' w_newT ?h ?_); (case h => walk_at "sz"))
  | with_reducible refine' w_sl ?_ | with_reducible refine' w_noPart ?_ | with_reducible refine' w_part ?_ | with_reducible refine' w_partI ?_ | with_reducible refine' w_bm0 ?_ | with_reducible refine' w_bm ?_ | with_reducible refine' w_sub ?_ | with_reducible refine' w_gCons ?_ | with_reducible refine' w_gNil ?_
  | ((with_reducible refine' w_ixL ?h ?h2 ?_); (case h => walk_at "hs"); (case h2 => first | exact rfl | exact atI_last)) | ((with_reducible refine' w_ixT ?h ?h2 ?_); (case h => walk_at "ht"); (case h2 => exact rfl))
  | ((with_reducible refine' w_lenL ?h ?_); (case h => walk_at "hs")) | ((with_reducible refine' w_lenT ?h ?_); (case h => walk_at "ht"))
  | ((with_reducible refine' w_tyL ?h ?_); (case h => walk_at "hh")) | with_reducible refine' w_tyS ?_ | ((with_reducible refine' w_append ?h ?h2 ?_); (case h => walk_at "hh"); (case h2 => walk_at "sz"))
  | ((with_reducible show Ends.rt _ _ _); dsimp only) | ((with_reducible show Ends.bk _ _ _); dsimp only) | ((with_reducible show Ends.ct _ _ _); dsimp only) | with_reducible refine' w_break ?_ | with_reducible refine' w_cont ?_ | with_reducible refine' w_retN ?_
  | with_reducible refine' w_for ?_ | with_reducible refine' w_lc ?_ | with_reducible refine' w_iAny ?_ | with_reducible refine' w_iRng1 ?_ | with_reducible refine' w_iRng2 ?_ | with_reducible refine' w_iEnum ?_ | with_reducible refine' w_iZip ?_ | with_reducible refine' w_iRev ?_
  | ((with_reducible refine' w_rng ?h ?h2 ?_); (case h => walk_at "do"); (case h2 => walk_at "do")) | ((with_reducible refine' w_rng2 ?h ?h2 ?h3 ?h4 ?_); (case h => walk_at "do"); (case h2 => walk_at "do"); (case h3 => walk_at "do"); (case h4 => walk_at "do"))
  | ((with_reducible refine' w_itL ?h ?_); (case h => walk_at "hs")) | ((with_reducible refine' w_itT ?h ?_); (case h => walk_at "ht")) | with_reducible refine' w_itS ?_ | ((with_reducible refine' w_itRL ?h ?_); (case h => walk_at "hs")) | ((with_reducible refine' w_itRT ?h ?_); (case h => walk_at "ht"))
  | ((with_reducible refine' w_itEn ?h ?_); (case h => walk_at "hs")) | ((with_reducible refine' w_itZ ?h ?h2 ?_); (case h => walk_at "hs"); (case h2 => walk_at "hs"))
  | ((with_reducible show wipe _ _ = wipe _ _ ∧ _); refine ⟨rfl, ?_⟩) | with_reducible refine' w_yes1 ?_ | with_reducible refine' w_whT ?_
  | with_reducible refine' isI_int ?_ | with_reducible refine' isI_bool ?_ | with_reducible refine' isI_str ?_ | with_reducible refine' isI_tuple ?_ | with_reducible refine' isI_list ?_
  | with_reducible refine' isS_int ?_ | with_reducible refine' isS_bool ?_ | with_reducible refine' isS_str ?_ | with_reducible refine' isS_tuple ?_ | with_reducible refine' isS_list ?_
  | with_reducible refine' isN_int ?_ | with_reducible refine' isN_bool ?_ | with_reducible refine' isN_str ?_ | with_reducible refine' isN_tuple ?_ | with_reducible refine' isN_list ?_
  | with_reducible refine' isB_int ?_ | with_reducible refine' isB_bool ?_ | with_reducible refine' isB_str ?_ | with_reducible refine' isB_tuple ?_ | with_reducible refine' isB_list ?_
  | ((with_reducible refine' isT_int ?h ?_); (case h => walk_at "ht")) | ((with_reducible refine' isT_bool ?h ?_); (case h => walk_at "ht")) | ((with_reducible refine' isT_str ?h ?_); (case h => walk_at "ht")) | ((with_reducible refine' isT_tuple ?h ?_); (case h => walk_at "ht")) | ((with_reducible refine' isT_list ?h ?_); (case h => walk_at "ht"))
  | ((with_reducible refine' isL_int ?h ?_); (case h => walk_at "hs")) | ((with_reducible refine' isL_bool ?h ?_); (case h => walk_at "hs")) | ((with_reducible refine' isL_str ?h ?_); (case h => walk_at "hs")) | ((with_reducible refine' isL_tuple ?h ?_); (case h => walk_at "hs")) | ((with_reducible refine' isL_list ?h ?_); (case h => walk_at "hs"))
  | ((with_reducible refine' w_popC ?h ?_); (case h => walk_at "hh")) | ((with_reducible refine' w_tuple ?h ?_); (case h => walk_at "hs"))
  | with_reducible refine' w_snoc ?_ | with_reducible refine' w_snocN ?_ | with_reducible refine' w_conz ?_ | with_reducible refine' w_conzN ?_ | with_reducible refine' w_nilz ?_ | with_reducible refine' w_nilzN ?_
  | ((with_reducible refine' w_gTup ?h ?h2 ?_); (case h => walk_at "ht"); (case h2 => exact rfl))
  | ((with_reducible refine' w_powI ?h ?_); (case h => exact ⟨by decide, by decide, by decide⟩))
  | ((with_reducible refine' w_setL ?h ?h2 ?_); (case h => walk_at "hh"); (case h2 => exact rfl))
  | with_reducible refine' w_listRev ?_ | ((with_reducible refine' w_lRev ?h ?_); (case h => walk_at "ht"))
  | ((with_reducible refine' w_slL ?h ?_); (case h => walk_at "hs")) | ((with_reducible refine' w_list ?h ?_); (case h => walk_at "hs")) | ((with_reducible refine' w_extend ?h ?h2 ?h3 ?_); (case h => walk_at "hh"); (case h2 => walk_at "hh"); (case h3 => walk_at "sz"))
  | ((with_reducible refine' w_trL ?h ?_); (case h => walk_at "hs")) | ((with_reducible refine' w_trT ?h ?_); (case h => walk_at "ht"))
  | ((with_reducible refine' w_addL ?h ?h2 ?h3 ?_); (case h => walk_at "hh"); (case h2 => walk_at "hh"); (case h3 => walk_at "sz"))
  | ((with_reducible refine' w_eqN ?h ?h2 ?_); (case h => walk_at "hs"); (case h2 => walk_at "hs")) | ((with_reducible refine' w_neN ?h ?h2 ?_); (case h => walk_at "hs"); (case h2 => walk_at "hs"))
  | with_reducible refine' w_nt ?_ | with_reducible refine' w_nf ?_
  | with_reducible refine' iteT ?_ | with_reducible refine' iteF ?_)
local macro_rules | `(tactic| walk_at "wl") => `(tactic| repeat (walk_at "ws"))
def RetD (K : PySem.W.Frag) (xs : List Nat) (i : Nat) (d : PyData) (r : List Nat) (H : Hp) (Q : VK) : Prop :=
  ∀ p H' v (j : Nat), Ex H H' → H p = none → H' p = some (.tup [v, .int (j : Int)]) → Dp K H' v d → xs.drop j = r → i < j → j ≤ xs.length → Q (.ref p) H'
/-- one plain datum is read at i -/
def RdP (K : PySem.W.Frag) (xs : List Nat) (i : Nat) (H : Hp) (Q : VK) (E : XK) : Prop :=
  (∀ d r, plainP (xs.drop i) = some (d, r) → RetD K xs i d r H Q) ∧ (plainP (xs.drop i) = none → ∀ H', Ex H H' → E (Mal K) none H')
def spUNum (K : PySem.W.Frag) : Sp := fun vs H Q E => ∃ (a : Addr) (xs : List Nat) (i k : Nat), vs = [.ref a, .int (i : Int)] ∧ SqL K H a (vN xs) ∧ xs[i]? = some k ∧ (k = 1 ∨ k = 2) ∧ RdP K xs i H Q E
def spUText (K : PySem.W.Frag) : Sp := fun vs H Q E => ∃ (a : Addr) (xs : List Nat) (i : Nat), vs = [.ref a, .int (i : Int)] ∧ SqL K H a (vN xs) ∧ xs[i]? = some 3 ∧ xs.length ≤ 100000 ∧ RdP K xs i H Q E
def spUPlain (K : PySem.W.Frag) : Sp := fun vs H Q E => ∃ (a : Addr) (xs : List Nat) (i : Nat), vs = [.ref a, .int (i : Int)] ∧ SqL K H a (vN xs) ∧ xs.length ≤ 100000 ∧ i < xs.length ∧ xs[i]? ≠ some 4 ∧ RdP K xs i H Q E
theorem plainP_num {k n : Nat} {r : List Nat} (hk : k = 1 ∨ k = 2) : plainP (k :: n :: r) = if n ≤ r.length ∧ noZero (r.take n) = true ∧ (k = 2 → numN (r.take n) ≠ 0) then some (.int (if k = 2 then -(numN (r.take n) : Int) else numN (r.take n)), r.drop n) else none := by
  rcases hk with rfl | rfl
  · show (if _ then _ else _) = _
    simp
  · show (if _ then _ else _) = _
    simp
theorem plainP_num1 {k : Nat} (hk : k = 1 ∨ k = 2) : plainP [k] = none := by
  rcases hk with rfl | rfl <;> rfl
theorem drop_at {xs : List Nat} {i k : Nat} (h : xs[i]? = some k) : xs.drop i = k :: xs.drop (i + 1) := by
  obtain ⟨hi, rfl⟩ := List.getElem?_eq_some_iff.mp h
  exact List.drop_eq_getElem_cons hi
theorem at_of_lt {xs : List Nat} {i : Nat} (h : i < xs.length) : ∃ k, xs[i]? = some k := ⟨_, List.getElem?_eq_getElem h⟩
theorem noZ {xs : List Nat} {j n z : Nat} (hn : 0 < n) (hz : xs[j + n - 1]? = some z) : noZero ((xs.drop j).take n) = (z != 0) := by
  obtain ⟨hi, rfl⟩ := List.getElem?_eq_some_iff.mp hz
  have hl : ((xs.drop j).take n).length = n := by rw [List.length_take, List.length_drop]; omega
  have hne : (xs.drop j).take n ≠ [] := by
    intro e
    rw [e] at hl
    simp at hl
    omega
  rw [noZero_last _ hne, List.getLast_eq_getElem]
  congr 1
  rw [List.getElem_take, List.getElem_drop]
  congr 1
  omega
theorem take_one {xs : List Nat} {i n : Nat} (h : xs[i]? = some n) : (xs.drop i).take 1 = [n] := by rw [drop_at h]; rfl
theorem take_two {xs : List Nat} {i a b : Nat} (h : xs[i]? = some a) (h2 : xs[i + 1]? = some b) : (xs.drop i).take 2 = [a, b] := by rw [drop_at h, drop_at h2]; rfl
section
variable {P : Program} {w : World} {K : PySem.W.Frag} {mg : Str → Option Value} {base : Heap} {f : Addr} {fd : FuncData}
theorem ok_unpack_number (T : Tx K mg) (F : FunD K "unpack_number" "unpack_number" (defArgs s_unpack_number) (defBody s_unpack_number) (defScope s_unpack_number) [] [] f fd) (G_need : Fn P w K mg base 1 "need" (spNeed K)) (G_number_of : Fn P w K mg base 1 "number_of" (spNum K)) : FnOkR P w K mg base 2 f fd ["octets", "at"] (spUNum K) := by
  refine okR F sc_unpack_number (fun vs H Q E h => ?_) (fun cdv A outer s H vs Q E hr h => ?_)
  · obtain ⟨a, xs, i, k, rfl, _⟩ := h
    rfl
  · obtain ⟨a, xs, i, k, rfl, hs, hk, hk2, k1, k2⟩ := h
    refine ⟨_, (pss_cons (ps_set (i := 2) sc_unpack_number.nd rfl (Or.inl rfl) (pe_ix (ixK (K := K)) (pe_f G_need hr (by omega) rfl (fun σ => px (takes_of rfl rfl rfl rfl) σ) (pa_cons (pv 0) (pa_cons (pe_op (opAddK (K := K)) (pv 1) pe_int) (pa_cons pe_int pa_nil)))) pe_int (fun _ _ => rfl)))
      (pss_cons (ps_set (i := 3) sc_unpack_number.nd rfl (Or.inl rfl) (pe_f G_number_of hr (by omega) rfl (fun σ => px (takes_of rfl rfl rfl rfl) σ) (pa_cons (pe_f G_need hr (by omega) rfl (fun σ => px (takes_of rfl rfl rfl rfl) σ) (pa_cons (pv 0) (pa_cons (pe_op (opAddK (K := K)) (pv 1) pe_int) (pa_cons (pv 2) pa_nil)))) pa_nil)))
      (pss_cons (ps_if (PW.pt (pw_or (PW.pt (pw_and (pt_cmpR opGt (pv 2) pe_int (nomark _)) (pw_and1 (pt_cmpR (opEqK (K := K) hr.units) (pe_ix (ixK (K := K)) (pv 0) (pe_op (opAddK (K := K)) (pe_op (opAddK (K := K)) (pv 1) pe_int) (pv 2)) (fun _ _ => rfl)) pe_int (nomark _))))) (pw_or1 (PW.pt (pw_and (pt_cmpR (opEqK (K := K) hr.units) (pe_ix (ixK (K := K)) (pv 0) (pv 1) (fun _ _ => rfl)) (pe_ci rfl T.c_MINUS) (nomark _)) (pw_and1 (pt_cmpR (opEqK (K := K) hr.units) (pv 3) pe_int (nomark _)))))))) (pss_one (ps_raise rfl (takes_of rfl rfl rfl rfl) (pmk_own PySem.F.excBase_ValueError T.x_Malformed.1 T.g_Malformed T.x_Malformed.2.1 (raises_own T.x_Malformed.2.2.1 T.x_Malformed.2.2.2) rfl))) pss_nil)
      (pss_one (ps_ret (pe_tup (pa_cons (pe_ifExp (pt_cmpR (opEqK (K := K) hr.units) (pe_ix (ixK (K := K)) (pv 0) (pv 1) (fun _ _ => rfl)) (pe_ci rfl T.c_MINUS) (nomark _)) (pe_un unNeg (pv 3)) (pv 3)) (pa_cons (pe_op (opAddK (K := K)) (pe_op (opAddK (K := K)) (pv 1) pe_int) (pv 2)) pa_nil)))))))), ?_⟩
    rw [drop_at hk] at k1 k2
    walk_at "wl"
    refine ⟨a, xs, i + 1, 1, rfl, hs, ?_, ?_⟩
    · intro hle p1 H1 e1 hp1 h1
      obtain ⟨n, hn⟩ := at_of_lt (xs := xs) (i := i + 1) (by omega)
      rw [drop_at hn, plainP_num hk2] at k1 k2
      rw [take_one hn] at h1
      walk_at "wl"
      refine ⟨a, xs, i + 2, n, rfl, e1.l hs, ?_, ?_⟩
      · intro hle2 p2 H2 e2 hp2 h2
        have hs2 : SqL K H2 a (vN xs) := e2.l (e1.l hs)
        walk_at "wl"
        refine ⟨p2, _, rfl, SqL.of h2, ?_⟩
        walk_at "wl"
        refine w_dec (fun hn0 => ?_) (fun hn0 => ?_)
        · obtain ⟨z, hz⟩ := at_of_lt (xs := xs) (i := i + 2 + n - 1) (by omega)
          have hnz0 := noZ (xs := xs) (j := i + 2) (n := n) (by omega) hz
          walk_at "wl"
          refine w_ixN hs2 (j := i + 2 + n - 1) (by omega) hz ?_
          walk_at "wl"
          refine w_dec (fun hz0 => ?_) (fun hz0 => ?_)
          · walk_at "wl"
            refine k2 ?_ _ (e1.trans e2)
            rw [if_neg]
            rintro ⟨_, h2, _⟩
            rw [hnz0] at h2
            simp only [bne_iff_ne] at h2
            omega
          · have hnz : noZero ((xs.drop (i + 2)).take n) = true := by
              rw [hnz0]
              simp only [bne_iff_ne]
              omega
            walk_at "wl"
            refine w_ixN hs2 (j := i) rfl hk ?_
            walk_at "wl"
            rcases hk2 with rfl | rfl
            · refine w_no (by decide) ?_
              walk_at "wl"
              refine w_ixN hs2 (j := i) rfl hk ?_
              walk_at "wl"
              refine w_no (by decide) ?_
              walk_at "wl"
              intro p3 H3 hp3 e3 h3
              walk_at "wl"
              refine k1 _ _ (if_pos ⟨by rw [List.length_drop]; omega, hnz, fun z => by omega⟩) p3 H3 _ (i + 2 + n) ((e1.trans e2).trans e3) ((e1.trans e2).fresh hp3) h3 (.int _) ?_ (by omega) (by omega)
              rw [List.drop_drop]
            · refine w_yes (by decide) ?_
              walk_at "wl"
              refine w_dec (fun h0 => ?_) (fun h0 => ?_)
              · walk_at "wl"
                refine k2 ?_ _ (e1.trans e2)
                rw [if_neg]
                rintro ⟨_, _, z⟩
                exact z rfl (Int.natCast_eq_zero.mp h0)
              · walk_at "wl"
                refine w_ixN hs2 (j := i) rfl hk ?_
                walk_at "wl"
                refine w_yes (by decide) ?_
                walk_at "wl"
                intro p3 H3 hp3 e3 h3
                walk_at "wl"
                refine k1 _ _ (if_pos ⟨by rw [List.length_drop]; omega, hnz, fun _ z => h0 (by rw [z]; rfl)⟩) p3 H3 _ (i + 2 + n) ((e1.trans e2).trans e3) ((e1.trans e2).fresh hp3) h3 (.int _) ?_ (by omega) (by omega)
                rw [List.drop_drop]
        · have hnz : noZero ((xs.drop (i + 2)).take n) = true := by
            rw [show n = 0 by omega]
            rfl
          walk_at "wl"
          refine w_ixN hs2 (j := i) rfl hk ?_
          walk_at "wl"
          rcases hk2 with rfl | rfl
          · refine w_no (by decide) ?_
            walk_at "wl"
            refine w_ixN hs2 (j := i) rfl hk ?_
            walk_at "wl"
            refine w_no (by decide) ?_
            walk_at "wl"
            intro p3 H3 hp3 e3 h3
            walk_at "wl"
            refine k1 _ _ (if_pos ⟨by rw [List.length_drop]; omega, hnz, fun z => by omega⟩) p3 H3 _ (i + 2 + n) ((e1.trans e2).trans e3) ((e1.trans e2).fresh hp3) h3 (.int _) ?_ (by omega) (by omega)
            rw [List.drop_drop]
          · refine w_yes (by decide) ?_
            walk_at "wl"
            refine w_dec (fun h0 => ?_) (fun h0 => ?_)
            · walk_at "wl"
              refine k2 ?_ _ (e1.trans e2)
              rw [if_neg]
              rintro ⟨_, _, z⟩
              exact z rfl (Int.natCast_eq_zero.mp h0)
            · walk_at "wl"
              refine w_ixN hs2 (j := i) rfl hk ?_
              walk_at "wl"
              refine w_yes (by decide) ?_
              walk_at "wl"
              intro p3 H3 hp3 e3 h3
              walk_at "wl"
              refine k1 _ _ (if_pos ⟨by rw [List.length_drop]; omega, hnz, fun _ z => h0 (by rw [z]; rfl)⟩) p3 H3 _ (i + 2 + n) ((e1.trans e2).trans e3) ((e1.trans e2).fresh hp3) h3 (.int _) ?_ (by omega) (by omega)
              rw [List.drop_drop]
      · intro hlt H' e'
        refine k2 ?_ H' (e1.trans e')
        rw [if_neg]
        rintro ⟨h1, _⟩
        rw [List.length_drop] at h1
        omega
    · intro hlt
      refine k2 ?_
      rw [List.drop_of_length_le (by omega)]
      exact plainP_num1 hk2
end
end K47

namespace K47
open PySem PySem.Spec PyProof.Rows L2 Hf
local macro_rules | `(tactic| walk_at "hh") => `(tactic| first | assumption | exact Chg.at_ (by assumption) | (refine Ex.use (by assumption) ?_; walk_at "hh") | (refine Chg.use (by assumption) ?_ ?_; (walk_at "hne"); (walk_at "hh")))
local macro_rules | `(tactic| walk_at "hne") => `(tactic| first | assumption | exact Ne.symm (by assumption) | exact ne_fresh (by assumption) (by walk_at "hh") | exact (ne_fresh (by assumption) (by walk_at "hh")).symm)
local macro_rules | `(tactic| walk_at "hn") => `(tactic| first | assumption | exact Ex.fresh (by assumption) (by walk_at "hn") | exact Chg.fresh (by assumption) (by walk_at "hn"))
local macro_rules | `(tactic| walk_at "hx") => `(tactic| first | assumption | exact Ex.refl _ | (refine Ex.trans ?_ (by assumption); walk_at "hx") | (refine Chg.ex ?_ (by assumption) ?_; (walk_at "hx"); (walk_at "hn")))
local macro_rules | `(tactic| walk_at "hs") => `(tactic| first | assumption | exact SqL.of (by walk_at "hh") | exact Ex.l (by walk_at "hx") (by assumption) | (refine Chg.l (by assumption) ?_ ?_; (walk_at "hne"); (walk_at "hs")))
local macro_rules | `(tactic| walk_at "ht") => `(tactic| first | assumption | exact SqT.of (by walk_at "hh") | exact Ex.t (by walk_at "hx") (by assumption) | (refine Chg.t (by assumption) ?_ ?_; (walk_at "hne"); (walk_at "ht")))
local macro_rules | `(tactic| walk_at "sz") => `(tactic| first | decide | omega | (simp only [List.length_append, List.length_cons, List.length_nil, List.length_map, List.length_reverse] <;> omega))
local macro_rules | `(tactic| walk_at "cm") => `(tactic| first | exact .inr ⟨by decide, by decide⟩ | exact .inl ⟨by decide, by decide⟩ | exact .inr ⟨by omega, by omega⟩ | exact .inl ⟨by omega, by omega⟩)
local macro_rules | `(tactic| walk_at "do") => `(tactic| first | decide | omega)
local macro_rules | `(tactic| walk_at "ws") => `(tactic| first
  | ((with_reducible refine' w_var ?h ?_); (case h => exact rfl)) | with_reducible refine' w_c ?_ | with_reducible refine' w_op ?_ | with_reducible refine' w_seq ?_ | with_reducible refine' w_asg ?_ | with_reducible refine' w_gName ?_ | ((with_reducible show Ends.nx _ _ _); dsimp only) | with_reducible refine' w_cons ?_ | with_reducible refine' w_nil ?_ | with_reducible refine' w_cb ?_ | with_reducible refine' w_cal ?_
  | with_reducible refine' w_drop ?_ | with_reducible refine' w_ret ?_ | with_reducible refine' w_ifS ?_ | with_reducible refine' w_test ?_ | with_reducible refine' w_bl ?_ | with_reducible refine' w_next ?_
  | with_reducible refine' w_addI ?_ | with_reducible refine' w_subI ?_ | with_reducible refine' w_eqI ?_ | with_reducible refine' w_neI ?_ | with_reducible refine' w_lt ?_ | with_reducible refine' w_le ?_ | with_reducible refine' w_gt ?_ | with_reducible refine' w_ge ?_ | with_reducible refine' w_eqS ?_ | with_reducible refine' w_neS ?_ | with_reducible refine' isN_I ?_ | with_reducible refine' isN_S ?_ | with_reducible refine' isN_B ?_ | with_reducible refine' isN_R ?_ | with_reducible refine' isN_N ?_ | with_reducible refine' isNot_I ?_ | with_reducible refine' isNot_S ?_ | with_reducible refine' isNot_B ?_ | with_reducible refine' isNot_R ?_ | with_reducible refine' isNot_N ?_ | with_reducible refine' w_isN ?_ | with_reducible refine' w_isNotN ?_ | with_reducible refine' w_ord1 ?_
  | ((with_reducible refine' w_modI ?h ?_); (case h => walk_at "do")) | ((with_reducible refine' w_divI ?h ?h2 ?_); (case h => walk_at "do"); (case h2 => walk_at "do")) | ((with_reducible refine' w_mulI ?h ?_); (case h => walk_at "cm")) | with_reducible refine' w_negI ?_ | with_reducible refine' w_un ?_
  | with_reducible refine' w_intI ?_ | with_reducible refine' w_intB ?_ | with_reducible refine' w_abs ?_ | with_reducible refine' w_not ?_ | with_reducible refine' w_and ?_ | with_reducible refine' w_or ?_ | with_reducible refine' w_if ?_ | with_reducible refine' w_notV ?_ | with_reducible refine' w_andV ?_ | with_reducible refine' w_orV ?_ | with_reducible refine' w_chain ?_
  | with_reducible refine' w_tTr ?_ | with_reducible refine' w_trB ?_ | with_reducible refine' w_trI ?_ | with_reducible refine' w_trN ?_ | with_reducible refine' w_tB ?_ | ((with_reducible refine' w_augI ?h ?_); (case h => exact rfl)) | with_reducible refine' w_int ?_
  | with_reducible refine' w_lst ?_ | with_reducible refine' w_tup ?_ | ((with_reducible refine' w_newL ?h ?_); (case h => walk_at "sz")) | ((with_reducible refine' w_newT ?h ?_); (case h => walk_at "sz"))
  | with_reducible refine' w_sl ?_ | with_reducible refine' w_noPart ?_ | with_reducible refine' w_part ?_ | with_reducible refine' w_partI ?_ | with_reducible refine' w_bm0 ?_ | with_reducible refine' w_bm ?_ | with_reducible refine' w_sub ?_ | with_reducible refine' w_gCons ?_ | with_reducible refine' w_gNil ?_
  | ((with_reducible refine' w_ixL ?h ?h2 ?_); (case h => walk_at "hs"); (case h2 => first | exact rfl | exact atI_last)) | ((with_reducible refine' w_ixT ?h ?h2 ?_); (case h => walk_at "ht"); (case h2 => exact rfl))
  | ((with_reducible refine' w_lenL ?h ?_); (case h => walk_at "hs")) | ((with_reducible refine' w_lenT ?h ?_); (case h => walk_at "ht"))
  | ((with_reducible refine' w_tyL ?h ?_); (case h => walk_at "hh")) | with_reducible refine' w_tyS ?_ | ((with_reducible refine' w_append ?h ?h2 ?_); (case h => walk_at "hh"); (case h2 => walk_at "sz"))
  | ((with_reducible show Ends.rt _ _ _); dsimp only) | ((with_reducible show Ends.bk _ _ _); dsimp only) | ((with_reducible show Ends.ct _ _ _); dsimp only) | with_reducible refine' w_break ?_ | with_reducible refine' w_cont ?_ | with_reducible refine' w_retN ?_
  | with_reducible refine' w_for ?_ | with_reducible refine' w_lc ?_ | with_reducible refine' w_iAny ?_ | with_reducible refine' w_iRng1 ?_ | with_reducible refine' w_iRng2 ?_ | with_reducible refine' w_iEnum ?_ | with_reducible refine' w_iZip ?_ | with_reducible refine' w_iRev ?_
  | ((with_reducible refine' w_rng ?h ?h2 ?_); (case h => walk_at "do"); (case h2 => walk_at "do")) | ((with_reducible refine' w_rng2 ?h ?h2 ?h3 ?h4 ?_); (case h => walk_at "do"); (case h2 => walk_at "do"); (case h3 => walk_at "do"); (case h4 => walk_at "do"))
  | ((with_reducible refine' w_itL ?h ?_); (case h => walk_at "hs")) | ((with_reducible refine' w_itT ?h ?_); (case h => walk_at "ht")) | with_reducible refine' w_itS ?_ | ((with_reducible refine' w_itRL ?h ?_); (case h => walk_at "hs")) | ((with_reducible refine' w_itRT ?h ?_); (case h => walk_at "ht"))
  | ((with_reducible refine' w_itEn ?h ?_); (case h => walk_at "hs")) | ((with_reducible refine' w_itZ ?h ?h2 ?_); (case h => walk_at "hs"); (case h2 => walk_at "hs"))
  | ((with_reducible show wipe _ _ = wipe _ _ ∧ _); refine ⟨rfl, ?_⟩) | with_reducible refine' w_yes1 ?_ | with_reducible refine' w_whT ?_
  | with_reducible refine' isI_int ?_ | with_reducible refine' isI_bool ?_ | with_reducible refine' isI_str ?_ | with_reducible refine' isI_tuple ?_ | with_reducible refine' isI_list ?_
  | with_reducible refine' isS_int ?_ | with_reducible refine' isS_bool ?_ | with_reducible refine' isS_str ?_ | with_reducible refine' isS_tuple ?_ | with_reducible refine' isS_list ?_
  | with_reducible refine' isN_int ?_ | with_reducible refine' isN_bool ?_ | with_reducible refine' isN_str ?_ | with_reducible refine' isN_tuple ?_ | with_reducible refine' isN_list ?_
  | with_reducible refine' isB_int ?_ | with_reducible refine' isB_bool ?_ | with_reducible refine' isB_str ?_ | with_reducible refine' isB_tuple ?_ | with_reducible refine' isB_list ?_
  | ((with_reducible refine' isT_int ?h ?_); (case h => walk_at "ht")) | ((with_reducible refine' isT_bool ?h ?_); (case h => walk_at "ht")) | ((with_reducible refine' isT_str ?h ?_); (case h => walk_at "ht")) | ((with_reducible refine' isT_tuple ?h ?_); (case h => walk_at "ht")) | ((with_reducible refine' isT_list ?h ?_); (case h => walk_at "ht"))
  | ((with_reducible refine' isL_int ?h ?_); (case h => walk_at "hs")) | ((with_reducible refine' isL_bool ?h ?_); (case h => walk_at "hs")) | ((with_reducible refine' isL_str ?h ?_); (case h => walk_at "hs")) | ((with_reducible refine' isL_tuple ?h ?_); (case h => walk_at "hs")) | ((with_reducible refine' isL_list ?h ?_); (case h => walk_at "hs"))
  | ((with_reducible refine' w_popC ?h ?_); (case h => walk_at "hh")) | ((with_reducible refine' w_tuple ?h ?_); (case h => walk_at "hs"))
  | with_reducible refine' w_snoc ?_ | with_reducible refine' w_snocN ?_ | with_reducible refine' w_conz ?_ | with_reducible refine' w_conzN ?_ | with_reducible refine' w_nilz ?_ | with_reducible refine' w_nilzN ?_
  | ((with_reducible refine' w_gTup ?h ?h2 ?_); (case h => walk_at "ht"); (case h2 => exact rfl))
  | ((with_reducible refine' w_powI ?h ?_); (case h => exact ⟨by decide, by decide, by decide⟩))
  | ((with_reducible refine' w_setL ?h ?h2 ?_); (case h => walk_at "hh"); (case h2 => exact rfl))
  | with_reducible refine' w_listRev ?_ | ((with_reducible refine' w_lRev ?h ?_); (case h => walk_at "ht"))
  | ((with_reducible refine' w_slL ?h ?_); (case h => walk_at "hs")) | ((with_reducible refine' w_list ?h ?_); (case h => walk_at "hs")) | ((with_reducible refine' w_extend ?h ?h2 ?h3 ?_); (case h => walk_at "hh"); (case h2 => walk_at "hh"); (case h3 => walk_at "sz"))
  | ((with_reducible refine' w_trL ?h ?_); (case h => walk_at "hs")) | ((with_reducible refine' w_trT ?h ?_); (case h => walk_at "ht"))
  | ((with_reducible refine' w_addL ?h ?h2 ?h3 ?_); (case h => walk_at "hh"); (case h2 => walk_at "hh"); (case h3 => walk_at "sz"))
  | ((with_reducible refine' w_eqN ?h ?h2 ?_); (case h => walk_at "hs"); (case h2 => walk_at "hs")) | ((with_reducible refine' w_neN ?h ?h2 ?_); (case h => walk_at "hs"); (case h2 => walk_at "hs"))
  | with_reducible refine' w_nt ?_ | with_reducible refine' w_nf ?_
  | with_reducible refine' iteT ?_ | with_reducible refine' iteF ?_)
local macro_rules | `(tactic| walk_at "wl") => `(tactic| repeat (walk_at "ws"))
theorem plainP_text {a b : Nat} {r : List Nat} : plainP (3 :: a :: b :: r) = if numN [a, b] ≤ r.length ∧ (r.take (numN [a, b])).all okc = true then some (.str (textOf (r.take (numN [a, b]))), r.drop (numN [a, b])) else none := rfl
theorem plainP_text0 : ∀ {r : List Nat}, r.length < 2 → plainP (3 :: r) = none
  | [], _ => rfl
  | [_], _ => rfl
  | _ :: _ :: _, h => by simp only [List.length_cons] at h; omega
theorem RdP.ex {K : PySem.W.Frag} {xs : List Nat} {i : Nat} {H H1 : Hp} {Q : VK} {E : XK} (e : Ex H H1) (h : RdP K xs i H Q E) : RdP K xs i H1 Q E :=
  ⟨fun d r q p H' v j e' hp => h.1 d r q p H' v j (e.trans e') (e.fresh hp), fun q H' e' => h.2 q H' (e.trans e')⟩
theorem in12 (k : Nat) : inV (.int (k : Int)) [V.int 1, V.int 2] = decide (k = 1 ∨ k = 2) := by
  show ((1 : Int) == (k : Int) || ((2 : Int) == (k : Int) || false)) = _
  rw [Bool.or_false, Bool.eq_iff_iff, Bool.or_eq_true, beq_iff_eq, beq_iff_eq, decide_eq_true_iff]
  omega
theorem plainP_other {k : Nat} {r : List Nat} (h : 3 < k) : plainP (k :: r) = none := by
  match k, h with
  | k + 4, _ => rfl
theorem inV_sg : ∀ l : List Nat, inV .non (l.map sgV) = !(l.all okc)
  | [] => rfl
  | c :: l => by
    show (eqV (sgV c) .non || inV .non (l.map sgV)) = !(okc c && l.all okc)
    rw [inV_sg l]
    unfold sgV
    cases okc c <;> simp [eqV]
theorem sg_flat (l : List Nat) : (l.map sgV).all flatV = true := by
  rw [List.all_map, List.all_eq_true]
  intro c _
  show flatV (sgV c) = true
  unfold sgV
  split <;> rfl
theorem sg_strs : ∀ l : List Nat, l.all okc = true → l.map sgV = (l.map fun c => (⟨#[c]⟩ : Str)).map V.str
  | [], _ => rfl
  | c :: l, h => by
    rw [List.all_cons, Bool.and_eq_true] at h
    rw [List.map_cons, List.map_cons, List.map_cons, sg_strs l h.2]
    unfold sgV
    rw [if_pos h.1]
theorem ones_sum (l : List Nat) : ((l.map fun c => (⟨#[c]⟩ : Str)).map (·.length)).sum = l.length := by
  induction l with
  | nil => rfl
  | cons c l ih =>
    rw [List.map_cons, List.map_cons, List.sum_cons, ih, List.length_cons]
    show 1 + l.length = l.length + 1
    omega
section
variable {P : Program} {w : World} {K : PySem.W.Frag} {mg : Str → Option Value} {base : Heap} {f : Addr} {fd : FuncData}
theorem ok_unpack_text (T : Tx K mg) (F : FunD K "unpack_text" "unpack_text" (defArgs s_unpack_text) (defBody s_unpack_text) (defScope s_unpack_text) [] [] f fd) (G_need : Fn P w K mg base 1 "need" (spNeed K)) (G_number_of : Fn P w K mg base 1 "number_of" (spNum K)) (G_sign_of : Fn P w K mg base 1 "sign_of" spSign) : FnOkR P w K mg base 2 f fd ["octets", "at"] (spUText K) := by
  refine okR F sc_unpack_text (fun vs H Q E h => ?_) (fun cdv A outer s H vs Q E hr h => ?_)
  · obtain ⟨a, xs, i, rfl, _⟩ := h
    rfl
  · obtain ⟨a, xs, i, rfl, hs, hk, hsz, k1, k2⟩ := h
    refine ⟨_, (pss_cons (ps_set (i := 2) sc_unpack_text.nd rfl (Or.inl rfl) (pe_f G_number_of hr (by omega) rfl (fun σ => px (takes_of rfl rfl rfl rfl) σ) (pa_cons (pe_f G_need hr (by omega) rfl (fun σ => px (takes_of rfl rfl rfl rfl) σ) (pa_cons (pv 0) (pa_cons (pe_op (opAddK (K := K)) (pv 1) pe_int) (pa_cons pe_int pa_nil)))) pa_nil)))
      (pss_cons (ps_set (i := 3) sc_unpack_text.nd rfl (Or.inl rfl) (pe_f G_need hr (by omega) rfl (fun σ => px (takes_of rfl rfl rfl rfl) σ) (pa_cons (pv 0) (pa_cons (pe_op (opAddK (K := K)) (pv 1) pe_int) (pa_cons (pv 2) pa_nil)))))
      (pss_cons (ps_setLc (i := 4) (own := [("code", 5)]) rfl sc_unpack_text.nd rfl rfl (sw_true rfl rfl rfl (by decide +kernel)) (anyK (K := K) (pv 3)) (blkOk_by (own := [("code", 5)]) (N := ["octets", "at", "size", "codes", "signs", "code"]) (sc := defScope s_unpack_text) (by decide +kernel)) (fun _ _ _ _ _ => (pg_name (i := 5) sc_unpack_text.nd rfl (Or.inl rfl))) (fun _ _ _ _ _ => pts_nil) (fun _ _ _ _ _ => (pe_f G_sign_of hr (by omega) rfl (fun σ => px0 σ) (pa_cons (pv 5) pa_nil))))
      (pss_cons (ps_if (pt_cmpR (opInK (K := K)) pe_non (pv 4) (by rfl)) (pss_one (ps_raise rfl (takes_of rfl rfl rfl rfl) (pmk_own PySem.F.excBase_ValueError T.x_Malformed.1 T.g_Malformed T.x_Malformed.2.1 (raises_own T.x_Malformed.2.2.1 T.x_Malformed.2.2.2) rfl))) pss_nil)
      (pss_one (ps_ret (pe_tup (pa_cons (asK (K := K) (fun K => tBM K _ _ _ _) (pe_bm PySem.F.plainAttrs_str PySem.F.slot_str_join PySem.F.type_str_join (mtJoinK (K := K)) pe_str (pa_cons (pv 4) pa_nil))) (pa_cons (pe_op (opAddK (K := K)) (pe_op (opAddK (K := K)) (pv 1) pe_int) (pv 2)) pa_nil))))))))), ?_⟩
    rw [drop_at hk] at k1 k2
    walk_at "wl"
    refine ⟨a, xs, i + 1, 2, rfl, hs, ?_, ?_⟩
    · intro hle p1 H1 e1 hp1 h1
      obtain ⟨x, hx⟩ := at_of_lt (xs := xs) (i := i + 1) (by omega)
      obtain ⟨y, hy⟩ := at_of_lt (xs := xs) (i := i + 1 + 1) (by omega)
      rw [drop_at hx, drop_at hy, plainP_text] at k1 k2
      rw [take_two hx hy] at h1
      generalize en : numN [x, y] = n at k1 k2
      walk_at "wl"
      refine ⟨p1, _, rfl, SqL.of h1, ?_⟩
      rw [en]
      walk_at "wl"
      refine ⟨a, xs, i + 3, n, rfl, e1.l hs, ?_, ?_⟩
      · intro hle2 p2 H2 e2 hp2 h2
        generalize el : (xs.drop (i + 3)).take n = l at h2
        have el2 : (xs.drop (i + 1 + 1 + 1)).take n = l := el
        rw [el2] at k1 k2
        have hll : l.length = n := by rw [← el, List.length_take, List.length_drop]; omega
        walk_at "wl"
        refine w_lcVL (R := fun j => (l.take j).map sgV) (SqL.of h2) rfl ?_ ?_
        · intro Dl j x4 H3 hD hx4 hj e3 h3
          obtain ⟨c, hc, rfl⟩ := vN_get hx4
          rw [vN_len] at hj
          walk_at "wl"
          refine ⟨c, rfl, ?_⟩
          refine lcV hD e3 h3 ?_ ?_
          · show ((l.take j).map sgV).length < 1000000
            rw [List.length_map, List.length_take]
            omega
          · show (l.take (j + 1)).map sgV = (l.take j).map sgV ++ [sgV c]
            rw [List.take_add_one, hc, List.map_append]
            rfl
        · intro p3 H3 hp3 e3 h3
          have h3' : H3 p3 = some (.lst (l.map sgV)) := by
            rw [h3]
            show some (HO.lst ((l.take (vN l).length).map sgV)) = _
            rw [vN_len, List.take_length]
          walk_at "wl"
          refine w_in (SqL.of h3') rfl (sg_flat l) ?_
          rw [inV_sg]
          walk_at "wl"
          refine w_boolN (fun hb => ?_) (fun hb => ?_)
          · walk_at "wl"
            refine k2 ?_ _ ((e1.trans e2).trans e3)
            rw [if_neg]
            rintro ⟨_, h2⟩
            rw [h2] at hb
            cases hb
          · walk_at "wl"
            rw [sg_strs l hb] at h3'
            refine w_join (SqL.of h3') ?_ ?_
            · rw [ones_sum, List.length_map]
              show l.length + l.length * 0 ≤ _
              omega
            · walk_at "wl"
              intro p4 H4 hp4 e4 h4
              walk_at "wl"
              have ej : Txt.join ("" : Str) (l.map fun c => (⟨#[c]⟩ : Str)) = textOf l := join_ones l
              rw [ej] at h4
              refine k1 _ _ (if_pos ⟨by rw [List.length_drop]; omega, hb⟩) p4 H4 _ (i + 3 + n) (((e1.trans e2).trans e3).trans e4) (((e1.trans e2).trans e3).fresh hp4) h4 (.str _) ?_ (by omega) (by omega)
              rw [List.drop_drop]
      · intro hlt H' e'
        refine k2 ?_ H' (e1.trans e')
        rw [if_neg]
        rintro ⟨h1, _⟩
        rw [List.length_drop] at h1
        omega
    · intro hlt
      refine k2 ?_
      exact plainP_text0 (by rw [List.length_drop]; omega)
theorem ok_unpack_plain (T : Tx K mg) (F : FunD K "unpack_plain" "unpack_plain" (defArgs s_unpack_plain) (defBody s_unpack_plain) (defScope s_unpack_plain) [] [] f fd) (G_need : Fn P w K mg base 1 "need" (spNeed K)) (G_unpack_number : Fn P w K mg base 2 "unpack_number" (spUNum K)) (G_unpack_text : Fn P w K mg base 2 "unpack_text" (spUText K)) : FnOkR P w K mg base 3 f fd ["octets", "at"] (spUPlain K) := by
  refine okR F sc_unpack_plain (fun vs H Q E h => ?_) (fun cdv A outer s H vs Q E hr h => ?_)
  · obtain ⟨a, xs, i, rfl, _⟩ := h
    rfl
  · obtain ⟨a, xs, i, rfl, hs, hsz, hi, h4, k1, k2⟩ := h
    refine ⟨_, (pss_cons (ps_set (i := 2) sc_unpack_plain.nd rfl (Or.inl rfl) (pe_ix (ixK (K := K)) (pe_f G_need hr (by omega) rfl (fun σ => px (takes_of rfl rfl rfl rfl) σ) (pa_cons (pv 0) (pa_cons (pv 1) (pa_cons pe_int pa_nil)))) pe_int (fun _ _ => rfl)))
      (pss_cons (ps_if (pt_cmpR (opEqK (K := K) hr.units) (pv 2) (pe_ci rfl T.c_NOTHING) (nomark _)) (pss_one (ps_ret (pe_tup (pa_cons pe_non (pa_cons (pe_op (opAddK (K := K)) (pv 1) pe_int) pa_nil))))) pss_nil)
      (pss_cons (ps_if (pt_cmpR (opInK (K := K)) (pv 2) (pe_tup (pa_cons (pe_ci rfl T.c_NUMBER) (pa_cons (pe_ci rfl T.c_MINUS) pa_nil))) (by rfl)) (pss_one (ps_ret (pe_f G_unpack_number hr (by omega) rfl (fun σ => px (takes_of rfl rfl rfl rfl) σ) (pa_cons (pv 0) (pa_cons (pv 1) pa_nil))))) pss_nil)
      (pss_cons (ps_if (pt_cmpR (opEqK (K := K) hr.units) (pv 2) (pe_ci rfl T.c_TEXT) (nomark _)) (pss_one (ps_ret (pe_f G_unpack_text hr (by omega) rfl (fun σ => px (takes_of rfl rfl rfl rfl) σ) (pa_cons (pv 0) (pa_cons (pv 1) pa_nil))))) pss_nil)
      (pss_one (ps_raise rfl (takes_of rfl rfl rfl rfl) (pmk_own PySem.F.excBase_ValueError T.x_Malformed.1 T.g_Malformed T.x_Malformed.2.1 (raises_own T.x_Malformed.2.2.1 T.x_Malformed.2.2.2) rfl))))))), ?_⟩
    obtain ⟨k, hk⟩ := at_of_lt hi
    walk_at "wl"
    refine ⟨a, xs, i, 1, rfl, hs, ?_, fun hlt => by omega⟩
    intro hle p1 H1 e1 hp1 h1
    rw [take_one hk] at h1
    walk_at "wl"
    refine w_dec (fun h0 => ?_) (fun h0 => ?_)
    · have e : k = 0 := by omega
      subst e
      rw [drop_at hk] at k1
      walk_at "wl"
      intro p2 H2 hp2 e2 h2
      walk_at "wl"
      exact k1 _ _ rfl p2 H2 _ (i + 1) (e1.trans e2) (e1.fresh hp2) h2 .non rfl (by omega) (by omega)
    · walk_at "wl"
      intro p2 H2 hp2 e2 h2
      refine w_inT (SqT.of h2) rfl rfl ?_
      walk_at "wl"
      rw [show inV ((fun (x : Nat) => V.int (x : Int)) k) [V.int 1, V.int 2] = decide (k = 1 ∨ k = 2) from in12 k]
      refine w_dec (fun hk2 => ?_) (fun hk2 => ?_)
      · walk_at "wl"
        exact ⟨a, xs, i, k, rfl, (e1.trans e2).l hs, hk, hk2, RdP.ex (e1.trans e2) ⟨k1, k2⟩⟩
      · walk_at "wl"
        refine w_dec (fun h3 => ?_) (fun h3 => ?_)
        · walk_at "wl"
          have e : k = 3 := by omega
          subst e
          exact ⟨a, xs, i, rfl, (e1.trans e2).l hs, hk, hsz, RdP.ex (e1.trans e2) ⟨k1, k2⟩⟩
        · walk_at "wl"
          refine k2 ?_ _ (e1.trans e2)
          rw [drop_at hk]
          refine plainP_other ?_
          have : k ≠ 4 := fun e => h4 (by rw [hk, e])
          omega
end
end K47

namespace K47
open PySem PySem.Spec PyProof.Rows L2 Hf
local macro_rules | `(tactic| walk_at "hh") => `(tactic| first | assumption | exact Chg.at_ (by assumption) | (refine Ex.use (by assumption) ?_; walk_at "hh") | (refine Chg.use (by assumption) ?_ ?_; (walk_at "hne"); (walk_at "hh")))
local macro_rules | `(tactic| walk_at "hne") => `(tactic| first | assumption | exact Ne.symm (by assumption) | exact ne_fresh (by assumption) (by walk_at "hh") | exact (ne_fresh (by assumption) (by walk_at "hh")).symm)
local macro_rules | `(tactic| walk_at "hn") => `(tactic| first | assumption | exact Ex.fresh (by assumption) (by walk_at "hn") | exact Chg.fresh (by assumption) (by walk_at "hn"))
local macro_rules | `(tactic| walk_at "hx") => `(tactic| first | assumption | exact Ex.refl _ | (refine Ex.trans ?_ (by assumption); walk_at "hx") | (refine Chg.ex ?_ (by assumption) ?_; (walk_at "hx"); (walk_at "hn")))
local macro_rules | `(tactic| walk_at "hs") => `(tactic| first | assumption | exact SqL.of (by walk_at "hh") | exact Ex.l (by walk_at "hx") (by assumption) | (refine Chg.l (by assumption) ?_ ?_; (walk_at "hne"); (walk_at "hs")))
local macro_rules | `(tactic| walk_at "ht") => `(tactic| first | assumption | exact SqT.of (by walk_at "hh") | exact Ex.t (by walk_at "hx") (by assumption) | (refine Chg.t (by assumption) ?_ ?_; (walk_at "hne"); (walk_at "ht")))
local macro_rules | `(tactic| walk_at "sz") => `(tactic| first | decide | omega | (simp only [List.length_append, List.length_cons, List.length_nil, List.length_map, List.length_reverse] <;> omega))
local macro_rules | `(tactic| walk_at "cm") => `(tactic| first | exact .inr ⟨by decide, by decide⟩ | exact .inl ⟨by decide, by decide⟩ | exact .inr ⟨by omega, by omega⟩ | exact .inl ⟨by omega, by omega⟩)
local macro_rules | `(tactic| walk_at "do") => `(tactic| first | decide | omega)
local macro_rules | `(tactic| walk_at "ws") => `(tactic| first
  | ((with_reducible refine' w_var ?h ?_); (case h => exact rfl)) | with_reducible refine' w_c ?_ | with_reducible refine' w_op ?_ | with_reducible refine' w_seq ?_ | with_reducible refine' w_asg ?_ | with_reducible refine' w_gName ?_ | ((with_reducible show Ends.nx _ _ _); dsimp only) | with_reducible refine' w_cons ?_ | with_reducible refine' w_nil ?_ | with_reducible refine' w_cb ?_ | with_reducible refine' w_cal ?_
  | with_reducible refine' w_drop ?_ | with_reducible refine' w_ret ?_ | with_reducible refine' w_ifS ?_ | with_reducible refine' w_test ?_ | with_reducible refine' w_bl ?_ | with_reducible refine' w_next ?_
  | with_reducible refine' w_addI ?_ | with_reducible refine' w_subI ?_ | with_reducible refine' w_eqI ?_ | with_reducible refine' w_neI ?_ | with_reducible refine' w_lt ?_ | with_reducible refine' w_le ?_ | with_reducible refine' w_gt ?_ | with_reducible refine' w_ge ?_ | with_reducible refine' w_eqS ?_ | with_reducible refine' w_neS ?_ | with_reducible refine' isN_I ?_ | with_reducible refine' isN_S ?_ | with_reducible refine' isN_B ?_ | with_reducible refine' isN_R ?_ | with_reducible refine' isN_N ?_ | with_reducible refine' isNot_I ?_ | with_reducible refine' isNot_S ?_ | with_reducible refine' isNot_B ?_ | with_reducible refine' isNot_R ?_ | with_reducible refine' isNot_N ?_ | with_reducible refine' w_isN ?_ | with_reducible refine' w_isNotN ?_ | with_reducible refine' w_ord1 ?_
  | ((with_reducible refine' w_modI ?h ?_); (case h => walk_at "do")) | ((with_reducible refine' w_divI ?h ?h2 ?_); (case h => walk_at "do"); (case h2 => walk_at "do")) | ((with_reducible refine' w_mulI ?h ?_); (case h => walk_at "cm")) | with_reducible refine' w_negI ?_ | with_reducible refine' w_un ?_
  | with_reducible refine' w_intI ?_ | with_reducible refine' w_intB ?_ | with_reducible refine' w_abs ?_ | with_reducible refine' w_not ?_ | with_reducible refine' w_and ?_ | with_reducible refine' w_or ?_ | with_reducible refine' w_if ?_ | with_reducible refine' w_notV ?_ | with_reducible refine' w_andV ?_ | with_reducible refine' w_orV ?_ | with_reducible refine' w_chain ?_
  | with_reducible refine' w_tTr ?_ | with_reducible refine' w_trB ?_ | with_reducible refine' w_trI ?_ | with_reducible refine' w_trN ?_ | with_reducible refine' w_tB ?_ | ((with_reducible refine' w_augI ?h ?_); (case h => exact rfl)) | with_reducible refine' w_int ?_
  | with_reducible refine' w_lst ?_ | with_reducible refine' w_tup ?_ | ((with_reducible refine' w_newL ?h ?_); (case h => walk_at "sz")) | ((with_reducible refine' w_newT ?h ?_); (case h => walk_at "sz"))
  | with_reducible refine' w_sl ?_ | with_reducible refine' w_noPart ?_ | with_reducible refine' w_part ?_ | with_reducible refine' w_partI ?_ | with_reducible refine' w_bm0 ?_ | with_reducible refine' w_bm ?_ | with_reducible refine' w_sub ?_ | with_reducible refine' w_gCons ?_ | with_reducible refine' w_gNil ?_
  | ((with_reducible refine' w_ixL ?h ?h2 ?_); (case h => walk_at "hs"); (case h2 => first | exact rfl | exact atI_last)) | ((with_reducible refine' w_ixT ?h ?h2 ?_); (case h => walk_at "ht"); (case h2 => exact rfl))
  | ((with_reducible refine' w_lenL ?h ?_); (case h => walk_at "hs")) | ((with_reducible refine' w_lenT ?h ?_); (case h => walk_at "ht"))
  | ((with_reducible refine' w_tyL ?h ?_); (case h => walk_at "hh")) | with_reducible refine' w_tyS ?_ | ((with_reducible refine' w_append ?h ?h2 ?_); (case h => walk_at "hh"); (case h2 => walk_at "sz"))
  | ((with_reducible show Ends.rt _ _ _); dsimp only) | ((with_reducible show Ends.bk _ _ _); dsimp only) | ((with_reducible show Ends.ct _ _ _); dsimp only) | with_reducible refine' w_break ?_ | with_reducible refine' w_cont ?_ | with_reducible refine' w_retN ?_
  | with_reducible refine' w_for ?_ | with_reducible refine' w_lc ?_ | with_reducible refine' w_iAny ?_ | with_reducible refine' w_iRng1 ?_ | with_reducible refine' w_iRng2 ?_ | with_reducible refine' w_iEnum ?_ | with_reducible refine' w_iZip ?_ | with_reducible refine' w_iRev ?_
  | ((with_reducible refine' w_rng ?h ?h2 ?_); (case h => walk_at "do"); (case h2 => walk_at "do")) | ((with_reducible refine' w_rng2 ?h ?h2 ?h3 ?h4 ?_); (case h => walk_at "do"); (case h2 => walk_at "do"); (case h3 => walk_at "do"); (case h4 => walk_at "do"))
  | ((with_reducible refine' w_itL ?h ?_); (case h => walk_at "hs")) | ((with_reducible refine' w_itT ?h ?_); (case h => walk_at "ht")) | with_reducible refine' w_itS ?_ | ((with_reducible refine' w_itRL ?h ?_); (case h => walk_at "hs")) | ((with_reducible refine' w_itRT ?h ?_); (case h => walk_at "ht"))
  | ((with_reducible refine' w_itEn ?h ?_); (case h => walk_at "hs")) | ((with_reducible refine' w_itZ ?h ?h2 ?_); (case h => walk_at "hs"); (case h2 => walk_at "hs"))
  | ((with_reducible show wipe _ _ = wipe _ _ ∧ _); refine ⟨rfl, ?_⟩) | with_reducible refine' w_yes1 ?_ | with_reducible refine' w_whT ?_
  | with_reducible refine' isI_int ?_ | with_reducible refine' isI_bool ?_ | with_reducible refine' isI_str ?_ | with_reducible refine' isI_tuple ?_ | with_reducible refine' isI_list ?_
  | with_reducible refine' isS_int ?_ | with_reducible refine' isS_bool ?_ | with_reducible refine' isS_str ?_ | with_reducible refine' isS_tuple ?_ | with_reducible refine' isS_list ?_
  | with_reducible refine' isN_int ?_ | with_reducible refine' isN_bool ?_ | with_reducible refine' isN_str ?_ | with_reducible refine' isN_tuple ?_ | with_reducible refine' isN_list ?_
  | with_reducible refine' isB_int ?_ | with_reducible refine' isB_bool ?_ | with_reducible refine' isB_str ?_ | with_reducible refine' isB_tuple ?_ | with_reducible refine' isB_list ?_
  | ((with_reducible refine' isT_int ?h ?_); (case h => walk_at "ht")) | ((with_reducible refine' isT_bool ?h ?_); (case h => walk_at "ht")) | ((with_reducible refine' isT_str ?h ?_); (case h => walk_at "ht")) | ((with_reducible refine' isT_tuple ?h ?_); (case h => walk_at "ht")) | ((with_reducible refine' isT_list ?h ?_); (case h => walk_at "ht"))
  | ((with_reducible refine' isL_int ?h ?_); (case h => walk_at "hs")) | ((with_reducible refine' isL_bool ?h ?_); (case h => walk_at "hs")) | ((with_reducible refine' isL_str ?h ?_); (case h => walk_at "hs")) | ((with_reducible refine' isL_tuple ?h ?_); (case h => walk_at "hs")) | ((with_reducible refine' isL_list ?h ?_); (case h => walk_at "hs"))
  | ((with_reducible refine' w_popC ?h ?_); (case h => walk_at "hh")) | ((with_reducible refine' w_tuple ?h ?_); (case h => walk_at "hs"))
  | with_reducible refine' w_snoc ?_ | with_reducible refine' w_snocN ?_ | with_reducible refine' w_conz ?_ | with_reducible refine' w_conzN ?_ | with_reducible refine' w_nilz ?_ | with_reducible refine' w_nilzN ?_
  | ((with_reducible refine' w_gTup ?h ?h2 ?_); (case h => walk_at "ht"); (case h2 => exact rfl))
  | ((with_reducible refine' w_powI ?h ?_); (case h => exact ⟨by decide, by decide, by decide⟩))
  | ((with_reducible refine' w_setL ?h ?h2 ?_); (case h => walk_at "hh"); (case h2 => exact rfl))
  | with_reducible refine' w_listRev ?_ | ((with_reducible refine' w_lRev ?h ?_); (case h => walk_at "ht"))
  | ((with_reducible refine' w_slL ?h ?_); (case h => walk_at "hs")) | ((with_reducible refine' w_list ?h ?_); (case h => walk_at "hs")) | ((with_reducible refine' w_extend ?h ?h2 ?h3 ?_); (case h => walk_at "hh"); (case h2 => walk_at "hh"); (case h3 => walk_at "sz"))
  | ((with_reducible refine' w_trL ?h ?_); (case h => walk_at "hs")) | ((with_reducible refine' w_trT ?h ?_); (case h => walk_at "ht"))
  | ((with_reducible refine' w_addL ?h ?h2 ?h3 ?_); (case h => walk_at "hh"); (case h2 => walk_at "hh"); (case h3 => walk_at "sz"))
  | ((with_reducible refine' w_eqN ?h ?h2 ?_); (case h => walk_at "hs"); (case h2 => walk_at "hs")) | ((with_reducible refine' w_neN ?h ?h2 ?_); (case h => walk_at "hs"); (case h2 => walk_at "hs"))
  | with_reducible refine' w_nt ?_ | with_reducible refine' w_nf ?_
  | with_reducible refine' iteT ?_ | with_reducible refine' iteF ?_)
local macro_rules | `(tactic| walk_at "wl") => `(tactic| repeat (walk_at "ws"))
def spUnpack (K : PySem.W.Frag) : Sp := fun vs H Q E => ∃ (a : Addr) (xs : List Nat), vs = [.ref a] ∧ SqL K H a (vN xs) ∧ xs.length ≤ 100000 ∧ (∀ x ∈ xs, x < 256) ∧
  (∀ d0 v H', good d0 = true → (∀ d, (good d = true ∧ packD d = xs) ↔ d = d0) → Ex H H' → Dp K H' v d0 → Q v H') ∧ ((∀ d, good d = true → packD d ≠ xs) → ∀ H', Ex H H' → E (Mal K) none H')
def RowsOk (K : PySem.W.Frag) (H : Hp) : List Frm → List Addr → Prop
  | [], [] => True
  | fr :: st, r :: rs => (∃ us, H r = some (.lst us) ∧ DpAll K H us fr.2) ∧ goods fr.2 = true ∧ RowsOk K H st rs
  | _, _ => False
theorem RowsOk.ex {K : PySem.W.Frag} {H H' : Hp} (e : Ex H H') : ∀ {st : List Frm} {rs : List Addr}, RowsOk K H st rs → RowsOk K H' st rs
  | [], [], _ => True.intro
  | _ :: _, _ :: _, ⟨⟨us, h, a⟩, g, k⟩ => ⟨⟨us, e.use h, dp_exAll e a⟩, g, RowsOk.ex e k⟩
theorem rows_len {K : PySem.W.Frag} {H : Hp} : ∀ {st : List Frm} {rs : List Addr}, RowsOk K H st rs → st.length = rs.length
  | [], [], _ => rfl
  | _ :: _, _ :: _, ⟨_, _, k⟩ => congrArg (· + 1) (rows_len k)
theorem rows_ne {K : PySem.W.Frag} {H : Hp} : ∀ {st : List Frm} {rs : List Addr} {p : Addr}, RowsOk K H st rs → p ∈ rs → H p ≠ none
  | [], [], _, _, h => nomatch h
  | _ :: _, r :: _, p, ⟨⟨us, h, _⟩, _, k⟩, hm => by
    rcases List.mem_cons.mp hm with rfl | hm
    · rw [h]
      exact fun z => nomatch z
    · exact rows_ne k hm
theorem RowsOk.chg {K : PySem.W.Frag} {H H' : Hp} {l : Addr} {o : HO} {ys : List V} (c : Chg H l o H') (hl : H l = some (.lst ys)) : ∀ {st : List Frm} {rs : List Addr}, (∀ x ∈ rs, x ≠ l) → RowsOk K H st rs → RowsOk K H' st rs
  | [], [], _, _ => True.intro
  | _ :: _, r :: _, n, ⟨⟨us, h, a⟩, g, k⟩ => ⟨⟨us, c.use (n r (List.mem_cons_self ..)) h, dp_chgAll c hl (goods_nolist _ g) a⟩, g, RowsOk.chg c hl (fun x hx => n x (List.mem_cons_of_mem _ hx)) k⟩
def bot : Nat → List Frm → Nat
  | n, [] => n
  | _, f :: st => bot f.1 st
def tots : List Frm → Nat
  | [] => 0
  | f :: st => f.2.length + 1 + tots st
theorem tots_len : ∀ st : List Frm, st.length ≤ tots st
  | [] => Nat.zero_le _
  | f :: st => by
    have := tots_len st
    show st.length + 1 ≤ f.2.length + 1 + tots st
    omega
structure Un (K : PySem.W.Frag) (H0 H : Hp) (pr ps : Addr) (xs : List Nat) (i n : Nat) (its : List PyData) (st : List Frm) (r : Addr) (rs : List Addr) (us : List V) : Prop where
  ex : Ex H0 H
  hp : H pr = some (.lst ((rs.map V.ref).reverse ++ [.ref r]))
  hs : H ps = some (.lst ((st.map fun f => V.int (f.1 : Int)).reverse ++ [.int (n : Int)]))
  hr : H r = some (.lst us)
  da : DpAll K H us its
  rows : RowsOk K H st rs
  ndr : r ∉ rs
  nd : rs.Nodup
  nr : r ≠ pr ∧ r ≠ ps
  nrs : ∀ x ∈ rs, x ≠ pr ∧ x ≠ ps
  fr : H0 r = none
  frs : ∀ x ∈ rs, H0 x = none
  g : goods its = true
  le : its.length ≤ n
  lt : ∀ f ∈ st, f.2.length < f.1
  sz : n < 65536
  szs : ∀ f ∈ st, f.1 < 65536
  bt : bot n st = 1
  tt : its.length + tots st ≤ i
  hi : i ≤ xs.length
  res : ∀ d, Res (n, its) st (xs.drop i) d ↔ (good d = true ∧ packD d = xs)
section
variable {P : Program} {w : World} {K : PySem.W.Frag} {mg : Str → Option Value} {base : Heap} {f : Addr} {fd : FuncData}
theorem ok_unpack (T : Tx K mg) (F : FunD K "unpack" "unpack" (defArgs s_unpack) (defBody s_unpack) (defScope s_unpack) [] [] f fd) (G_need : Fn P w K mg base 1 "need" (spNeed K)) (G_number_of : Fn P w K mg base 1 "number_of" (spNum K)) (G_unpack_plain : Fn P w K mg base 3 "unpack_plain" (spUPlain K)) : FnOkR P w K mg base 4 f fd ["octets"] (spUnpack K) := by
  refine okR F sc_unpack (fun vs H Q E h => ?_) (fun cdv A outer s H vs Q E hr h => ?_)
  · obtain ⟨a, xs, rfl, _⟩ := h
    rfl
  · obtain ⟨a, xs, rfl, hsq, hsz, hoct, k1, k2⟩ := h
    refine ⟨_, (pss_cons (ps_set (i := 1) sc_unpack.nd rfl (Or.inl rfl) (pe_lst (pa_cons (pe_lst pa_nil) pa_nil)))
      (pss_cons (ps_set (i := 2) sc_unpack.nd rfl (Or.inl rfl) (pe_lst (pa_cons pe_int pa_nil)))
      (pss_cons (ps_set (i := 3) sc_unpack.nd rfl (Or.inl rfl) pe_int)
      (pss_cons (ps_while (passes_of rfl) (trK (K := K) (pv 2)) (pss_one (ps_if (pt_cmpR (opEqK (K := K) hr.units) (pe_callB (cLenK (K := K)) (by rfl) T.b_len PySem.boot_len (pa_cons (pe_ix (ixK (K := K)) (pv 1) (pe_un unNeg pe_int) (fun _ _ => rfl)) pa_nil)) (pe_ix (ixK (K := K)) (pv 2) (pe_un unNeg pe_int) (fun _ _ => rfl)) (nomark _)) (pss_cons (ps_set (i := 4) sc_unpack.nd rfl (Or.inl rfl) (asK (K := K) (fun K => tBM0 K _ _ _) (pe_bm0 PySem.F.plainAttrs_list PySem.F.slot_list_pop PySem.F.type_list_pop mt_pop (pv 1))))
      (pss_cons (ps_expr (asK (K := K) (fun K => tBM0 K _ _ _) (pe_bm0 PySem.F.plainAttrs_list PySem.F.slot_list_pop PySem.F.type_list_pop mt_pop (pv 2))))
      (pss_cons (ps_if (pt_not (trK (K := K) (pv 2))) (pss_one ps_break) pss_nil)
      (pss_one (ps_expr (asK (K := K) (fun K => tBM K _ _ _ _) (pe_bm PySem.F.plainAttrs_list PySem.F.slot_list_append PySem.F.type_list_append mt_append (pe_ix (ixK (K := K)) (pv 1) (pe_un unNeg pe_int) (fun _ _ => rfl)) (pa_cons (pe_callTy (cTupK (K := K)) (by rfl) T.b_tuple bt_tuple (pa_cons (pv 4) pa_nil)) pa_nil)))))))) (pss_one (ps_if (pt_cmpR (opEqK (K := K) hr.units) (pe_ix (ixK (K := K)) (pe_f G_need hr (by omega) rfl (fun σ => px (takes_of rfl rfl rfl rfl) σ) (pa_cons (pv 0) (pa_cons (pv 3) (pa_cons pe_int pa_nil)))) pe_int (fun _ _ => rfl)) (pe_ci rfl T.c_MANY) (nomark _)) (pss_cons (ps_expr (asK (K := K) (fun K => tBM K _ _ _ _) (pe_bm PySem.F.plainAttrs_list PySem.F.slot_list_append PySem.F.type_list_append mt_append (pv 2) (pa_cons (pe_f G_number_of hr (by omega) rfl (fun σ => px (takes_of rfl rfl rfl rfl) σ) (pa_cons (pe_f G_need hr (by omega) rfl (fun σ => px (takes_of rfl rfl rfl rfl) σ) (pa_cons (pv 0) (pa_cons (pe_op (opAddK (K := K)) (pv 3) pe_int) (pa_cons pe_int pa_nil)))) pa_nil)) pa_nil))))
      (pss_cons (ps_expr (asK (K := K) (fun K => tBM K _ _ _ _) (pe_bm PySem.F.plainAttrs_list PySem.F.slot_list_append PySem.F.type_list_append mt_append (pv 1) (pa_cons (pe_lst pa_nil) pa_nil))))
      (pss_one (ps_aug (i := 3) sc_unpack.nd rfl (Or.inl rfl) pe_int ip_add)))) (pss_cons (ps_asg (pe_f G_unpack_plain hr (by omega) rfl (fun σ => px (takes_of rfl rfl rfl rfl) σ) (pa_cons (pv 0) (pa_cons (pv 3) pa_nil))) (asKG (K := K) (fun K => gTup K _ _) (pg_tup rfl (pgs_cons (pg_name (i := 5) sc_unpack.nd rfl (Or.inl rfl)) (pgs_cons (pg_name (i := 3) sc_unpack.nd rfl (Or.inl rfl)) pgs_nil)))))
      (pss_one (ps_expr (asK (K := K) (fun K => tBM K _ _ _ _) (pe_bm PySem.F.plainAttrs_list PySem.F.slot_list_append PySem.F.type_list_append mt_append (pe_ix (ixK (K := K)) (pv 1) (pe_un unNeg pe_int) (fun _ _ => rfl)) (pa_cons (pv 5) pa_nil)))))))))))
      (pss_cons (ps_if (pt_cmpR (opNeK (K := K) hr.units) (pv 3) (pe_callB (cLenK (K := K)) (by rfl) T.b_len PySem.boot_len (pa_cons (pv 0) pa_nil)) (nomark _)) (pss_one (ps_raise rfl (takes_of rfl rfl rfl rfl) (pmk_own PySem.F.excBase_ValueError T.x_Malformed.1 T.g_Malformed T.x_Malformed.2.1 (raises_own T.x_Malformed.2.2.1 T.x_Malformed.2.2.2) rfl))) pss_nil)
      (pss_one (ps_ret (pe_ix (ixK (K := K)) (pv 4) pe_int (fun _ _ => rfl))))))))), ?_⟩
    walk_at "wl"
    intro r0 H1 hr0 e1 h1
    walk_at "wl"
    intro pr H2 hpr2 e2 h2
    walk_at "wl"
    intro ps H3 hps3 e3 h3
    walk_at "wl"
    have hpr : H pr = none := e1.fresh hpr2
    have hps : H ps = none := (e1.trans e2).fresh hps3
    have npp : ps ≠ pr := fun e => by subst e; rw [hps3] at h2; cases h2
    refine w_while (fun m σ H' => ∃ i n its st r rs us o4 o5, σ = [some (.ref a), some (.ref pr), some (.ref ps), some (.int ((i : Nat) : Int)), o4, o5] ∧ m = 2 * (xs.length - i) + st.length ∧ Un K H H' pr ps xs i n its st r rs us)
      _ ⟨0, 1, [], [], r0, [], [], none, none, rfl, rfl, ?_⟩ ?_
    · refine ⟨(e1.trans e2).trans e3, e3.use h2, h3, e3.use (e2.use h1), .nil, True.intro, List.not_mem_nil, List.nodup_nil, ⟨?_, ?_⟩, (fun x hx => nomatch hx), hr0, (fun x hx => nomatch hx), by unfold goods; rfl, Nat.zero_le _, (fun x hx => nomatch hx), by decide, (fun x hx => nomatch hx), rfl, Nat.zero_le _, Nat.zero_le _, fun d => ?_⟩
      · intro e; subst e; rw [hpr2] at h1; cases h1
      · intro e; subst e; rw [e2.use h1] at hps3; cases hps3
      · rw [List.drop_zero]
        exact res_top
    rintro m σ H4 ⟨i, n, its, st, r, rs, us, o4, o5, rfl, rfl, U⟩
    obtain ⟨e4, hp4, hs4, hr4, da4, rows4, ndr, nd, ⟨nrp, nrs⟩, nrss, hfr, hfrs, hg, hle, hlt, hsn, hszs, hbt, htt, hi, hres⟩ := U
    have hlu := da_len da4
    have htl := tots_len st
    walk_at "wl"
    refine w_dec (fun hfull => ?_) (fun hfull => ?_)
    · have hfl : its.length = n := by omega
      cases st with
      | nil =>
        cases rs with
        | cons _ _ => exact rows4.elim
        | nil =>
          walk_at "wl"
          intro H5 c5
          walk_at "wl"
          intro H6 c6
          walk_at "wl"
          refine w_yes rfl ?_
          have e6 : Ex H H6 := by walk_at "hx"
          have hs6 : SqL K H6 a (vN xs) := e6.l hsq
          walk_at "wl"
          have hn1 : n = 1 := hbt
          rw [vN_len]
          refine w_decN (fun hne => ?_) (fun heq => ?_)
          · refine k2 (fun d hd hp => ?_) H6 e6
            have q := (hres d).mpr ⟨hd, hp⟩
            rw [res_done (by omega)] at q
            have q1 : xs.drop i = [] := q.1
            have := congrArg List.length q1
            rw [List.length_drop, List.length_nil] at this
            omega
          · match its, us, da4 with
            | [], _, _ => simp only [List.length_nil] at hfl; omega
            | _ :: _ :: _, _, _ => simp only [List.length_cons] at hfl; omega
            | [d0], [v0], .cons hd0 .nil =>
              have hr6 : H6 r = some (.lst [v0]) := c6.use nrs (c5.use nrp hr4)
              walk_at "wl"
              rw [goods_cons, Bool.and_eq_true] at hg
              have hi2 : i = xs.length := by omega
              walk_at "wl"
              refine k1 d0 v0 H6 hg.1 (fun d => ?_) e6 ?_
              · rw [← hres d, res_done (by rw [hn1]; rfl), hi2, List.drop_length]
                constructor
                · rintro ⟨_, e⟩
                  injection e with e _
                  exact e.symm
                · rintro rfl
                  exact ⟨rfl, rfl⟩
              · exact dp_chg c6 (c5.use npp hs4) (good_nolist _ hg.1) (dp_chg c5 hp4 (good_nolist _ hg.1) hd0)
      | cons fr2 st2 =>
        cases rs with
        | nil => exact rows4.elim
        | cons r2 rs2 =>
          rw [List.map_cons, List.reverse_cons] at hp4 hs4
          obtain ⟨⟨us2, hr2, da2⟩, hg2, rows2⟩ := rows4
          obtain ⟨n2, its2⟩ := fr2
          have nr2 := nrss r2 (List.mem_cons_self ..)
          obtain ⟨nr2p, nr2s⟩ := nr2
          have nr2r : r2 ≠ r := fun e => ndr (by rw [← e]; exact List.mem_cons_self ..)
          have hfr2 := hfrs r2 (List.mem_cons_self ..)
          have hlt2 : its2.length < n2 := hlt (n2, its2) (List.mem_cons_self ..)
          have hlu2 : us2.length = its2.length := da_len da2
          have htt2 : its.length + (its2.length + 1 + tots st2) ≤ i := htt
          walk_at "wl"
          intro H5 c5
          walk_at "wl"
          intro H6 c6
          walk_at "wl"
          intro p7 H7 hp7 e7 h7
          walk_at "wl"
          intro H8 c8
          walk_at "wl"
          have g1 : good (.tuple its) = true := by
            rw [good_tup, Bool.and_eq_true]
            exact ⟨decide_eq_true (by omega), hg⟩
          have q5 : H5 ps = some (.lst ((st2.map fun f => V.int (f.1 : Int)).reverse ++ [V.int (n2 : Int)] ++ [V.int (n : Int)])) := c5.use npp hs4
          have q7 : H7 r2 = some (.lst us2) := e7.use (c6.use nr2s (c5.use nr2p hr2))
          have da6 : DpAll K H6 us its := dp_chgAll c6 q5 (goods_nolist _ hg) (dp_chgAll c5 hp4 (goods_nolist _ hg) da4)
          have da62 : DpAll K H6 us2 its2 := dp_chgAll c6 q5 (goods_nolist _ hg2) (dp_chgAll c5 hp4 (goods_nolist _ hg2) da2)
          have hp8 : H8 pr = some (.lst ((rs2.map V.ref).reverse ++ [V.ref r2])) := c8.use (Ne.symm nr2p) (e7.use (c6.use (Ne.symm npp) c5.at_))
          have hs8 : H8 ps = some (.lst ((st2.map fun f => V.int (f.1 : Int)).reverse ++ [V.int (n2 : Int)])) := c8.use (Ne.symm nr2s) (e7.use c6.at_)
          have e8 : Ex H H8 := by walk_at "hx"
          refine ⟨_, ?_, i, n2, its2 ++ [.tuple its], st2, r2, rs2, us2 ++ [V.ref p7], _, _, rfl, rfl, ?_⟩
          · simp only [List.length_cons]
            omega
          · refine ⟨e8, hp8, hs8, c8.at_, ?_, ?_, (List.nodup_cons.mp nd).1, (List.nodup_cons.mp nd).2, ⟨nr2p, nr2s⟩, fun x hx => nrss x (List.mem_cons_of_mem _ hx), hfr2, fun x hx => hfrs x (List.mem_cons_of_mem _ hx), ?_, ?_, fun x hx => hlt x (List.mem_cons_of_mem _ hx), hszs (n2, its2) (List.mem_cons_self ..), fun x hx => hszs x (List.mem_cons_of_mem _ hx), hbt, ?_, hi, fun d => ?_⟩
            · refine da_app (dp_chgAll c8 q7 (goods_nolist _ hg2) (dp_exAll e7 da62)) (da_one ?_)
              exact dp_chg c8 q7 (good_nolist _ g1) (.tup (SqT.of h7) (dp_exAll e7 da6))
            · have nn : ∀ x ∈ rs2, x ≠ r2 := fun x hx e => (List.nodup_cons.mp nd).1 (by rw [← e]; exact hx)
              refine RowsOk.chg c8 q7 nn (RowsOk.ex e7 (RowsOk.chg c6 q5 (fun x hx => (nrss x (List.mem_cons_of_mem _ hx)).2) (RowsOk.chg c5 hp4 (fun x hx => (nrss x (List.mem_cons_of_mem _ hx)).1) rows2)))
            · rw [goods_app, hg2, goods_cons, g1]
              unfold goods
              rfl
            · rw [List.length_append, List.length_singleton]
              omega
            · rw [List.length_append, List.length_singleton]
              omega
            · rw [← hres d, res_done hfl]
              exact up_pop.symm
    · have hnf : its.length < n := by omega
      have hsq4 : SqL K H4 a (vN xs) := e4.l hsq
      walk_at "wl"
      refine ⟨a, xs, i, 1, rfl, hsq4, ?_, ?_⟩
      · intro hle1 p5 H5 e5 hp5 h5
        obtain ⟨x, hx⟩ := at_of_lt (xs := xs) (i := i) (by omega)
        rw [take_one hx] at h5
        rw [drop_at hx] at hres
        walk_at "wl"
        have ox : x < 256 := hoct x (List.mem_of_getElem? hx)
        have hsq5 : SqL K H5 a (vN xs) := e5.l hsq4
        refine w_dec (fun h4 => ?_) (fun h4 => ?_)
        · have ex4 : x = 4 := by omega
          subst ex4
          have hp5 := e5.use hp4
          have hs5 := e5.use hs4
          walk_at "wl"
          refine ⟨a, xs, i + 1, 2, rfl, hsq5, ?_, ?_⟩
          · intro hle2 p6 H6 e6 hp6 h6
            obtain ⟨y, hy⟩ := at_of_lt (xs := xs) (i := i + 1) (by omega)
            obtain ⟨z, hz⟩ := at_of_lt (xs := xs) (i := i + 1 + 1) (by omega)
            have oy : y < 256 := hoct y (List.mem_of_getElem? hy)
            have oz : z < 256 := hoct z (List.mem_of_getElem? hz)
            rw [take_two hy hz] at h6
            rw [drop_at hy, drop_at hz] at hres
            have hnl := numN_lt2 oy oz
            have hs6 := e6.use hs5
            have hp6 := e6.use hp5
            have hszs' := hszs
            have hszz : ((st.map fun f => V.int (f.1 : Int)).reverse ++ [V.int (n : Int)]).length ≤ 100001 := by
              rw [List.length_append, List.length_reverse, List.length_map, List.length_singleton]
              omega
            have hrl := rows_len rows4
            have hszp : ((rs.map V.ref).reverse ++ [V.ref r]).length ≤ 100001 := by
              rw [List.length_append, List.length_reverse, List.length_map, List.length_singleton]
              omega
            walk_at "wl"
            refine ⟨p6, _, rfl, SqL.of h6, ?_⟩
            walk_at "wl"
            intro H7 c7
            have hp7 := c7.use (Ne.symm npp) hp6
            have hr7 := c7.use nrs (e6.use (e5.use hr4))
            walk_at "wl"
            intro p8 H8 hp8 e8 h8
            walk_at "wl"
            intro H9 c9
            walk_at "wl"
            have np8 : p8 ≠ pr := fun e => by subst e; rw [hp7] at hp8; cases hp8
            have np8s : p8 ≠ ps := fun e => by subst e; rw [c7.at_] at hp8; cases hp8
            have np8r : p8 ≠ r := fun e => by subst e; rw [hr7] at hp8; cases hp8
            have e7 : Ex H H7 := by walk_at "hx"
            have e9 : Ex H H9 := by walk_at "hx"
            have rows7 : RowsOk K H7 st rs := RowsOk.chg c7 hs6 (fun x hx => (nrss x hx).2) (RowsOk.ex e6 (RowsOk.ex e5 rows4))
            have np8rs : p8 ∉ rs := fun hm => rows_ne rows7 hm hp8
            have hp8b := e8.use hp7
            refine ⟨_, ?_, i + 3, numN [y, z], [], (n, its) :: st, p8, r :: rs, [], _, _, rfl, rfl, ?_⟩
            · simp only [List.length_cons]
              omega
            · refine ⟨e9, ?_, ?_, c9.use np8 h8, .nil, ⟨⟨us, ?_, ?_⟩, hg, ?_⟩, ?_, List.nodup_cons.mpr ⟨ndr, nd⟩, ⟨np8, np8s⟩, ?_, e7.fresh hp8, ?_, by unfold goods; rfl, Nat.zero_le _, ?_, hnl, ?_, hbt, ?_, by omega, fun d => ?_⟩
              · rw [c9.at_, List.map_cons, List.reverse_cons]
              · rw [c9.use npp (e8.use c7.at_), List.map_cons, List.reverse_cons]
              · exact c9.use nrp (e8.use hr7)
              · exact dp_chgAll c9 hp8b (goods_nolist _ hg) (dp_exAll e8 (dp_chgAll c7 hs6 (goods_nolist _ hg) (dp_exAll (e5.trans e6) da4)))
              · exact RowsOk.chg c9 hp8b (fun x hx => (nrss x hx).1) (RowsOk.ex e8 rows7)
              · intro hm
                rcases List.mem_cons.mp hm with e | hm
                · exact np8r e
                · exact np8rs hm
              · intro x hx
                rcases List.mem_cons.mp hx with rfl | hx
                · exact ⟨nrp, nrs⟩
                · exact nrss x hx
              · intro x hx
                rcases List.mem_cons.mp hx with rfl | hx
                · exact hfr
                · exact hfrs x hx
              · intro x hx
                rcases List.mem_cons.mp hx with rfl | hx
                · exact hnf
                · exact hlt x hx
              · intro x hx
                rcases List.mem_cons.mp hx with rfl | hx
                · exact hsn
                · exact hszs' x hx
              · show 0 + (its.length + 1 + tots st) ≤ i + 3
                omega
              · rw [← hres d]
                exact (res_push hnf oy oz).symm
          · intro hlt2 H' e'
            refine k2 (fun d hd hp => ?_) H' ((e4.trans e5).trans e')
            have q := (hres d).mpr ⟨hd, hp⟩
            exact res_short hnf (by rw [List.length_drop]; omega) q
        · walk_at "wl"
          have hx4 : x ≠ 4 := fun e => h4 (by rw [e]; rfl)
          have hdrop := drop_at hx
          refine ⟨a, xs, i, rfl, hsq5, hsz, by omega, fun e => hx4 (Option.some.inj (hx.symm.trans e)), ?_, ?_⟩
          · intro d1 r1 hpl p6 H6 v j e6 hp6 h6 hd6 hdr hij hjl
            rw [hdrop] at hpl
            have ho : ∀ q ∈ x :: xs.drop (i + 1), q < 256 := fun q hq => hoct q (by rw [← hdrop] at hq; exact List.mem_of_mem_drop hq)
            have gd := (plain_back ho hpl).1
            have hp6' := e6.use (e5.use hp4)
            have hs6 := e6.use (e5.use hs4)
            have hr6 := e6.use (e5.use hr4)
            walk_at "wl"
            intro H7 c7
            walk_at "wl"
            have e7 : Ex H H7 := by walk_at "hx"
            refine ⟨_, ?_, j, n, its ++ [d1], st, r, rs, us ++ [v], _, _, rfl, rfl, ?_⟩
            · omega
            · refine ⟨e7, c7.use (Ne.symm nrp) hp6', c7.use (Ne.symm nrs) hs6, c7.at_, ?_, ?_, ndr, nd, ⟨nrp, nrs⟩, nrss, hfr, hfrs, ?_, ?_, hlt, hsn, hszs, hbt, ?_, hjl, fun d => ?_⟩
              · exact dp_chgAll c7 hr6 (by rw [nolistAll_app, goods_nolist _ hg]; unfold nolistAll; rw [good_nolist _ gd]; unfold nolistAll; rfl) (da_app (dp_exAll (e5.trans e6) da4) (da_one hd6))
              · exact RowsOk.chg c7 hr6 (fun q hq e => ndr (by rw [← e]; exact hq)) (RowsOk.ex (e5.trans e6) rows4)
              · rw [goods_app, hg, goods_cons, gd]
                unfold goods
                rfl
              · rw [List.length_append, List.length_singleton]
                omega
              · rw [List.length_append, List.length_singleton]
                omega
              · rw [hdr, ← hres d]
                exact (res_plain ho hnf hx4 hpl).symm
          · intro hpl H' e'
            rw [hdrop] at hpl
            refine k2 (fun d hd hp => ?_) H' ((e4.trans e5).trans e')
            exact res_none hnf hx4 hpl ((hres d).mpr ⟨hd, hp⟩)
      · intro hlt1 H' e'
        refine k2 (fun d hd hp => ?_) H' (e4.trans e')
        have q := (hres d).mpr ⟨hd, hp⟩
        rw [List.drop_of_length_le (by omega)] at q
        exact res_empty hnf q
end
end K47

namespace K47
open PySem PySem.Spec PyProof.Rows L2 Hf
local macro_rules | `(tactic| walk_at "hh") => `(tactic| first | assumption | exact Chg.at_ (by assumption) | (refine Ex.use (by assumption) ?_; walk_at "hh") | (refine Chg.use (by assumption) ?_ ?_; (walk_at "hne"); (walk_at "hh")))
local macro_rules | `(tactic| walk_at "hne") => `(tactic| first | assumption | exact Ne.symm (by assumption) | exact ne_fresh (by assumption) (by walk_at "hh") | exact (ne_fresh (by assumption) (by walk_at "hh")).symm)
local macro_rules | `(tactic| walk_at "hn") => `(tactic| first | assumption | exact Ex.fresh (by assumption) (by walk_at "hn") | exact Chg.fresh (by assumption) (by walk_at "hn"))
local macro_rules | `(tactic| walk_at "hx") => `(tactic| first | assumption | exact Ex.refl _ | (refine Ex.trans ?_ (by assumption); walk_at "hx") | (refine Chg.ex ?_ (by assumption) ?_; (walk_at "hx"); (walk_at "hn")))
local macro_rules | `(tactic| walk_at "hs") => `(tactic| first | assumption | exact SqL.of (by walk_at "hh") | exact Ex.l (by walk_at "hx") (by assumption) | (refine Chg.l (by assumption) ?_ ?_; (walk_at "hne"); (walk_at "hs")))
local macro_rules | `(tactic| walk_at "ht") => `(tactic| first | assumption | exact SqT.of (by walk_at "hh") | exact Ex.t (by walk_at "hx") (by assumption) | (refine Chg.t (by assumption) ?_ ?_; (walk_at "hne"); (walk_at "ht")))
local macro_rules | `(tactic| walk_at "sz") => `(tactic| first | decide | omega | (simp only [List.length_append, List.length_cons, List.length_nil, List.length_map, List.length_reverse] <;> omega))
local macro_rules | `(tactic| walk_at "cm") => `(tactic| first | exact .inr ⟨by decide, by decide⟩ | exact .inl ⟨by decide, by decide⟩ | exact .inr ⟨by omega, by omega⟩ | exact .inl ⟨by omega, by omega⟩)
local macro_rules | `(tactic| walk_at "do") => `(tactic| first | decide | omega)
local macro_rules | `(tactic| walk_at "ws") => `(tactic| first
  | ((with_reducible refine' w_var ?h ?_); (case h => exact rfl)) | with_reducible refine' w_c ?_ | with_reducible refine' w_op ?_ | with_reducible refine' w_seq ?_ | with_reducible refine' w_asg ?_ | with_reducible refine' w_gName ?_ | ((with_reducible show Ends.nx _ _ _); dsimp only) | with_reducible refine' w_cons ?_ | with_reducible refine' w_nil ?_ | with_reducible refine' w_cb ?_ | with_reducible refine' w_cal ?_
  | with_reducible refine' w_drop ?_ | with_reducible refine' w_ret ?_ | with_reducible refine' w_ifS ?_ | with_reducible refine' w_test ?_ | with_reducible refine' w_bl ?_ | with_reducible refine' w_next ?_
  | with_reducible refine' w_addI ?_ | with_reducible refine' w_subI ?_ | with_reducible refine' w_eqI ?_ | with_reducible refine' w_neI ?_ | with_reducible refine' w_lt ?_ | with_reducible refine' w_le ?_ | with_reducible refine' w_gt ?_ | with_reducible refine' w_ge ?_ | with_reducible refine' w_eqS ?_ | with_reducible refine' w_neS ?_ | with_reducible refine' isN_I ?_ | with_reducible refine' isN_S ?_ | with_reducible refine' isN_B ?_ | with_reducible refine' isN_R ?_ | with_reducible refine' isN_N ?_ | with_reducible refine' isNot_I ?_ | with_reducible refine' isNot_S ?_ | with_reducible refine' isNot_B ?_ | with_reducible refine' isNot_R ?_ | with_reducible refine' isNot_N ?_ | with_reducible refine' w_isN ?_ | with_reducible refine' w_isNotN ?_ | with_reducible refine' w_ord1 ?_
  | ((with_reducible refine' w_modI ?h ?_); (case h => walk_at "do")) | ((with_reducible refine' w_divI ?h ?h2 ?_); (case h => walk_at "do"); (case h2 => walk_at "do")) | ((with_reducible refine' w_mulI ?h ?_); (case h => walk_at "cm")) | with_reducible refine' w_negI ?_ | with_reducible refine' w_un ?_
  | with_reducible refine' w_intI ?_ | with_reducible refine' w_intB ?_ | with_reducible refine' w_abs ?_ | with_reducible refine' w_not ?_ | with_reducible refine' w_and ?_ | with_reducible refine' w_or ?_ | with_reducible refine' w_if ?_ | with_reducible refine' w_notV ?_ | with_reducible refine' w_andV ?_ | with_reducible refine' w_orV ?_ | with_reducible refine' w_chain ?_
  | with_reducible refine' w_tTr ?_ | with_reducible refine' w_trB ?_ | with_reducible refine' w_trI ?_ | with_reducible refine' w_trN ?_ | with_reducible refine' w_tB ?_ | ((with_reducible refine' w_augI ?h ?_); (case h => exact rfl)) | with_reducible refine' w_int ?_
  | with_reducible refine' w_lst ?_ | with_reducible refine' w_tup ?_ | ((with_reducible refine' w_newL ?h ?_); (case h => walk_at "sz")) | ((with_reducible refine' w_newT ?h ?_); (case h => walk_at "sz"))
  | with_reducible refine' w_sl ?_ | with_reducible refine' w_noPart ?_ | with_reducible refine' w_part ?_ | with_reducible refine' w_partI ?_ | with_reducible refine' w_bm0 ?_ | with_reducible refine' w_bm ?_ | with_reducible refine' w_sub ?_ | with_reducible refine' w_gCons ?_ | with_reducible refine' w_gNil ?_
  | ((with_reducible refine' w_ixL ?h ?h2 ?_); (case h => walk_at "hs"); (case h2 => first | exact rfl | exact atI_last)) | ((with_reducible refine' w_ixT ?h ?h2 ?_); (case h => walk_at "ht"); (case h2 => exact rfl))
  | ((with_reducible refine' w_lenL ?h ?_); (case h => walk_at "hs")) | ((with_reducible refine' w_lenT ?h ?_); (case h => walk_at "ht"))
  | ((with_reducible refine' w_tyL ?h ?_); (case h => walk_at "hh")) | with_reducible refine' w_tyS ?_ | ((with_reducible refine' w_append ?h ?h2 ?_); (case h => walk_at "hh"); (case h2 => walk_at "sz"))
  | ((with_reducible show Ends.rt _ _ _); dsimp only) | ((with_reducible show Ends.bk _ _ _); dsimp only) | ((with_reducible show Ends.ct _ _ _); dsimp only) | with_reducible refine' w_break ?_ | with_reducible refine' w_cont ?_ | with_reducible refine' w_retN ?_
  | with_reducible refine' w_for ?_ | with_reducible refine' w_lc ?_ | with_reducible refine' w_iAny ?_ | with_reducible refine' w_iRng1 ?_ | with_reducible refine' w_iRng2 ?_ | with_reducible refine' w_iEnum ?_ | with_reducible refine' w_iZip ?_ | with_reducible refine' w_iRev ?_
  | ((with_reducible refine' w_rng ?h ?h2 ?_); (case h => walk_at "do"); (case h2 => walk_at "do")) | ((with_reducible refine' w_rng2 ?h ?h2 ?h3 ?h4 ?_); (case h => walk_at "do"); (case h2 => walk_at "do"); (case h3 => walk_at "do"); (case h4 => walk_at "do"))
  | ((with_reducible refine' w_itL ?h ?_); (case h => walk_at "hs")) | ((with_reducible refine' w_itT ?h ?_); (case h => walk_at "ht")) | with_reducible refine' w_itS ?_ | ((with_reducible refine' w_itRL ?h ?_); (case h => walk_at "hs")) | ((with_reducible refine' w_itRT ?h ?_); (case h => walk_at "ht"))
  | ((with_reducible refine' w_itEn ?h ?_); (case h => walk_at "hs")) | ((with_reducible refine' w_itZ ?h ?h2 ?_); (case h => walk_at "hs"); (case h2 => walk_at "hs"))
  | ((with_reducible show wipe _ _ = wipe _ _ ∧ _); refine ⟨rfl, ?_⟩) | with_reducible refine' w_yes1 ?_ | with_reducible refine' w_whT ?_
  | with_reducible refine' isI_int ?_ | with_reducible refine' isI_bool ?_ | with_reducible refine' isI_str ?_ | with_reducible refine' isI_tuple ?_ | with_reducible refine' isI_list ?_
  | with_reducible refine' isS_int ?_ | with_reducible refine' isS_bool ?_ | with_reducible refine' isS_str ?_ | with_reducible refine' isS_tuple ?_ | with_reducible refine' isS_list ?_
  | with_reducible refine' isN_int ?_ | with_reducible refine' isN_bool ?_ | with_reducible refine' isN_str ?_ | with_reducible refine' isN_tuple ?_ | with_reducible refine' isN_list ?_
  | with_reducible refine' isB_int ?_ | with_reducible refine' isB_bool ?_ | with_reducible refine' isB_str ?_ | with_reducible refine' isB_tuple ?_ | with_reducible refine' isB_list ?_
  | ((with_reducible refine' isT_int ?h ?_); (case h => walk_at "ht")) | ((with_reducible refine' isT_bool ?h ?_); (case h => walk_at "ht")) | ((with_reducible refine' isT_str ?h ?_); (case h => walk_at "ht")) | ((with_reducible refine' isT_tuple ?h ?_); (case h => walk_at "ht")) | ((with_reducible refine' isT_list ?h ?_); (case h => walk_at "ht"))
  | ((with_reducible refine' isL_int ?h ?_); (case h => walk_at "hs")) | ((with_reducible refine' isL_bool ?h ?_); (case h => walk_at "hs")) | ((with_reducible refine' isL_str ?h ?_); (case h => walk_at "hs")) | ((with_reducible refine' isL_tuple ?h ?_); (case h => walk_at "hs")) | ((with_reducible refine' isL_list ?h ?_); (case h => walk_at "hs"))
  | ((with_reducible refine' w_popC ?h ?_); (case h => walk_at "hh")) | ((with_reducible refine' w_tuple ?h ?_); (case h => walk_at "hs"))
  | with_reducible refine' w_snoc ?_ | with_reducible refine' w_snocN ?_ | with_reducible refine' w_conz ?_ | with_reducible refine' w_conzN ?_ | with_reducible refine' w_nilz ?_ | with_reducible refine' w_nilzN ?_
  | ((with_reducible refine' w_gTup ?h ?h2 ?_); (case h => walk_at "ht"); (case h2 => exact rfl))
  | ((with_reducible refine' w_powI ?h ?_); (case h => exact ⟨by decide, by decide, by decide⟩))
  | ((with_reducible refine' w_setL ?h ?h2 ?_); (case h => walk_at "hh"); (case h2 => exact rfl))
  | with_reducible refine' w_listRev ?_ | ((with_reducible refine' w_lRev ?h ?_); (case h => walk_at "ht"))
  | ((with_reducible refine' w_slL ?h ?_); (case h => walk_at "hs")) | ((with_reducible refine' w_list ?h ?_); (case h => walk_at "hs")) | ((with_reducible refine' w_extend ?h ?h2 ?h3 ?_); (case h => walk_at "hh"); (case h2 => walk_at "hh"); (case h3 => walk_at "sz"))
  | ((with_reducible refine' w_trL ?h ?_); (case h => walk_at "hs")) | ((with_reducible refine' w_trT ?h ?_); (case h => walk_at "ht"))
  | ((with_reducible refine' w_addL ?h ?h2 ?h3 ?_); (case h => walk_at "hh"); (case h2 => walk_at "hh"); (case h3 => walk_at "sz"))
  | ((with_reducible refine' w_eqN ?h ?h2 ?_); (case h => walk_at "hs"); (case h2 => walk_at "hs")) | ((with_reducible refine' w_neN ?h ?h2 ?_); (case h => walk_at "hs"); (case h2 => walk_at "hs"))
  | with_reducible refine' w_nt ?_ | with_reducible refine' w_nf ?_
  | with_reducible refine' iteT ?_ | with_reducible refine' iteF ?_)
local macro_rules | `(tactic| walk_at "wl") => `(tactic| repeat (walk_at "ws"))
section
variable {P : Program} {w : World} {K : PySem.W.Frag} {mg : Str → Option Value} {base : Heap} {f : Addr} {fd : FuncData}
theorem ok_law_number (T : Tx K mg) (F : FunD K "_law_number" "_law_number" (defArgs s_law_number) (defBody s_law_number) (defScope s_law_number) [] [] f fd) : FnOkR P w K mg base 1 f fd ["script", "k"] (spNumber K) := by
  refine okR F sc_law_number (fun vs H Q E h => ?_) (fun cdv A outer s H vs Q E hr h => ?_)
  · obtain ⟨a, ns, k, rfl, _⟩ := h
    rfl
  · obtain ⟨a, ns, k, rfl, hs, kk⟩ := h
    refine ⟨_, (pss_cons (ps_set (i := 2) sc_law_number.nd rfl (Or.inl rfl) pe_int)
      (pss_cons (ps_if (pt_cmpR opGt (pe_callB (cLenK (K := K)) (by rfl) T.b_len PySem.boot_len (pa_cons (pv 0) pa_nil)) pe_int (nomark _)) (pss_one (ps_set (i := 2) sc_law_number.nd rfl (Or.inl rfl) (pe_ix (ixK (K := K)) (pv 0) (pe_op opMod (pe_callTy cInt (by rfl) T.b_int bt_int (pa_cons (pv 1) pa_nil)) (pe_callB (cLenK (K := K)) (by rfl) T.b_len PySem.boot_len (pa_cons (pv 0) pa_nil))) (fun _ _ => rfl)))) pss_nil)
      (pss_cons (ps_if (pt_cmpR opLt (pv 2) pe_int (nomark _)) (pss_one (ps_set (i := 2) sc_law_number.nd rfl (Or.inl rfl) (pe_op opSub pe_int (pe_op opMulA pe_int (pv 2))))) pss_nil)
      (pss_cons (ps_if (PW.pt (pw_and (pt_cmpR opGe (pv 2) (pe_op opPow pe_int pe_int) (nomark _)) (pw_and1 (pt_cmpR opLt (pv 1) (pe_callB (cLenK (K := K)) (by rfl) T.b_len PySem.boot_len (pa_cons (pv 0) pa_nil)) (nomark _))))) (pss_one (ps_ret (pv 2))) pss_nil)
      (pss_cons (ps_set (i := 3) sc_law_number.nd rfl (Or.inl rfl) (pe_op opMod (pe_callTy cInt (by rfl) T.b_int bt_int (pa_cons (pe_op (opAddK (K := K)) (pe_op opMulA (pe_op (opAddK (K := K)) (pv 2) pe_int) pe_int) (pe_op opMulA (pe_op (opAddK (K := K)) (pv 1) pe_int) pe_int)) pa_nil)) pe_int))
      (pss_cons (ps_set (i := 4) sc_law_number.nd rfl (Or.inl rfl) (pe_op opMod (pe_callTy cInt (by rfl) T.b_int bt_int (pa_cons (pe_op (opAddK (K := K)) (pe_op (opAddK (K := K)) (pe_op opMulA (pe_op (opAddK (K := K)) (pv 3) pe_int) pe_int) (pe_op opMulA (pe_op (opAddK (K := K)) (pv 2) pe_int) pe_int)) (pv 1)) pa_nil)) pe_int))
      (pss_one (ps_ret (pe_op opMod (pe_callTy cInt (by rfl) T.b_int bt_int (pa_cons (pe_op (opAddK (K := K)) (pe_op (opAddK (K := K)) (pe_op opMulA (pv 3) pe_int) (pe_op opMulA (pv 4) pe_int)) (pv 2)) pa_nil)) pe_int))))))))), ?_⟩
    walk_at "wl"
    refine w_dec (fun hl => ?_) (fun hl => ?_)
    · rw [List.length_map] at hl
      obtain ⟨n, hn⟩ := int_at (ns := ns) (i := (k : Int) % (ns.length : Int)) (Int.emod_nonneg _ (by omega)) (Int.emod_lt_of_pos _ (by omega))
      walk_at "wl"
      rw [List.length_map]
      refine w_modI (by omega) ?_
      refine w_ixL hs hn ?_
      walk_at "wl"
      refine w_dec (fun h1 => ?_) (fun h1 => ?_) <;> walk_at "wl" <;> refine w_dec (fun h2 => ?_) (fun h2 => ?_) <;> walk_at "wl" <;> first | exact kk _ | (refine w_dec (fun h3 => ?_) (fun h3 => ?_) <;> walk_at "wl" <;> exact kk _)
    · walk_at "wl"
      refine w_dec (fun h1 => ?_) (fun h1 => ?_) <;> walk_at "wl" <;> refine w_dec (fun h2 => ?_) (fun h2 => ?_) <;> walk_at "wl" <;> first | exact kk _ | (refine w_dec (fun h3 => ?_) (fun h3 => ?_) <;> walk_at "wl" <;> exact kk _)
theorem ok_law_take (T : Tx K mg) (F : FunD K "_law_take" "_law_take" (defArgs s_law_take) (defBody s_law_take) (defScope s_law_take) [] [] f fd) : FnOkR P w K mg base 1 f fd ["box", "size"] spTake := by
  refine okR F sc_law_take (fun vs H Q E h => ?_) (fun cdv A outer s H vs Q E hr h => ?_)
  · obtain ⟨b, x, m, rfl, _⟩ := h
    rfl
  · obtain ⟨b, x, m, rfl, hb, h0, h1, kk⟩ := h
    refine ⟨_, (pss_cons (ps_set (i := 2) sc_law_take.nd rfl (Or.inl rfl) (pe_op opMod (pe_callTy cInt (by rfl) T.b_int bt_int (pa_cons (pe_ix (ixK (K := K)) (pv 0) pe_int (fun _ _ => rfl)) pa_nil)) (pv 1)))
      (pss_cons (ps_asg (pe_op opDiv (pe_ix (ixK (K := K)) (pv 0) pe_int (fun _ _ => rfl)) (pv 1)) (pg_sub (pv 0) pe_int set_list))
      (pss_one (ps_ret (pv 2))))), ?_⟩
    have hm : (0 : Int) < (m : Int) := by omega
    have h62 : ((m : Nat) : Int).natAbs < 2 ^ 64 := by
      rw [Int.natAbs_natCast]
      exact Nat.lt_of_le_of_lt h1 (by decide)
    walk_at "wl"
    intro H1 c1
    walk_at "wl"
    have e : x % (m : Int) = ((x % (m : Int)).toNat : Int) := (Int.toNat_of_nonneg (Int.emod_nonneg _ (by omega))).symm
    rw [e]
    refine kk _ _ H1 ?_ c1
    have := Int.emod_lt_of_pos x hm
    omega
theorem ok_law_low (T : Tx K mg) (F : FunD K "_law_low" "_law_low" (defArgs s_law_low) (defBody s_law_low) (defScope s_law_low) [] [] f fd) : FnOkR P w K mg base 1 f fd ["number", "count"] spLow := by
  refine okR F sc_law_low (fun vs H Q E h => ?_) (fun cdv A outer s H vs Q E hr h => ?_)
  · obtain ⟨n, c, rfl, _⟩ := h
    rfl
  · obtain ⟨n, c, rfl, hc, k⟩ := h
    refine ⟨_, (pss_cons (ps_set (i := 2) sc_law_low.nd rfl (Or.inl rfl) (pe_lst pa_nil))
      (pss_cons (ps_for (passes_of rfl) rfl (pi_range1 rfl T.b_range (pa_cons (pv 1) pa_nil)) (pg_name (i := 3) sc_law_low.nd rfl (Or.inl rfl)) (pss_cons (ps_expr (asK (K := K) (fun K => tBM K _ _ _ _) (pe_bm PySem.F.plainAttrs_list PySem.F.slot_list_append PySem.F.type_list_append mt_append (pv 2) (pa_cons (pe_op opMod (pe_callTy cInt (by rfl) T.b_int bt_int (pa_cons (pv 0) pa_nil)) pe_int) pa_nil))))
      (pss_one (ps_set (i := 0) sc_law_low.nd rfl (Or.inl rfl) (pe_op opDiv (pe_callTy cInt (by rfl) T.b_int bt_int (pa_cons (pv 0) pa_nil)) pe_int)))))
      (pss_one (ps_ret (pv 2))))), ?_⟩
    walk_at "wl"
    intro p H1 hp e1 h1
    walk_at "wl"
    rw [Int.toNat_natCast]
    refine w_forR (fun i σ H' => ∃ v, σ = [some (.int (shrN n i : Nat)), some (.int (c : Int)), some (.ref p), v] ∧ Ex H H' ∧ H' p = some (.lst (vN (lowN n i)))) ⟨_, rfl, e1, h1⟩ ?_ ?_
    · rintro i σ H2 hi ⟨v, rfl, e2, h2⟩
      have hl := lowN_len n i
      have hv := vN_len (lowN n i)
      walk_at "wl"
      intro H3 c3
      walk_at "wl"
      refine ⟨_, by rw [shrN_succ]; rfl, by walk_at "hx", ?_⟩
      rw [lowN_succ, vN_app]
      exact c3.at_
    · rintro σ H2 ⟨v, rfl, e2, h2⟩
      walk_at "wl"
      exact k p H2 e2 hp h2
end
end K47

namespace K47
open PySem PySem.Spec PyProof.Rows L2 Hf
local macro_rules | `(tactic| walk_at "hh") => `(tactic| first | assumption | exact Chg.at_ (by assumption) | (refine Ex.use (by assumption) ?_; walk_at "hh") | (refine Chg.use (by assumption) ?_ ?_; (walk_at "hne"); (walk_at "hh")))
local macro_rules | `(tactic| walk_at "hne") => `(tactic| first | assumption | exact Ne.symm (by assumption) | exact ne_fresh (by assumption) (by walk_at "hh") | exact (ne_fresh (by assumption) (by walk_at "hh")).symm)
local macro_rules | `(tactic| walk_at "hn") => `(tactic| first | assumption | exact Ex.fresh (by assumption) (by walk_at "hn") | exact Chg.fresh (by assumption) (by walk_at "hn"))
local macro_rules | `(tactic| walk_at "hx") => `(tactic| first | assumption | exact Ex.refl _ | (refine Ex.trans ?_ (by assumption); walk_at "hx") | (refine Chg.ex ?_ (by assumption) ?_; (walk_at "hx"); (walk_at "hn")))
local macro_rules | `(tactic| walk_at "hs") => `(tactic| first | assumption | exact SqL.of (by walk_at "hh") | exact Ex.l (by walk_at "hx") (by assumption) | (refine Chg.l (by assumption) ?_ ?_; (walk_at "hne"); (walk_at "hs")))
local macro_rules | `(tactic| walk_at "ht") => `(tactic| first | assumption | exact SqT.of (by walk_at "hh") | exact Ex.t (by walk_at "hx") (by assumption) | (refine Chg.t (by assumption) ?_ ?_; (walk_at "hne"); (walk_at "ht")))
local macro_rules | `(tactic| walk_at "sz") => `(tactic| first | decide | omega | (simp only [List.length_append, List.length_cons, List.length_nil, List.length_map, List.length_reverse] <;> omega))
local macro_rules | `(tactic| walk_at "cm") => `(tactic| first | exact .inr ⟨by decide, by decide⟩ | exact .inl ⟨by decide, by decide⟩ | exact .inr ⟨by omega, by omega⟩ | exact .inl ⟨by omega, by omega⟩)
local macro_rules | `(tactic| walk_at "do") => `(tactic| first | decide | omega)
local macro_rules | `(tactic| walk_at "ws") => `(tactic| first
  | ((with_reducible refine' w_var ?h ?_); (case h => exact rfl)) | with_reducible refine' w_c ?_ | with_reducible refine' w_op ?_ | with_reducible refine' w_seq ?_ | with_reducible refine' w_asg ?_ | with_reducible refine' w_gName ?_ | ((with_reducible show Ends.nx _ _ _); dsimp only) | with_reducible refine' w_cons ?_ | with_reducible refine' w_nil ?_ | with_reducible refine' w_cb ?_ | with_reducible refine' w_cal ?_
  | with_reducible refine' w_drop ?_ | with_reducible refine' w_ret ?_ | with_reducible refine' w_ifS ?_ | with_reducible refine' w_test ?_ | with_reducible refine' w_bl ?_ | with_reducible refine' w_next ?_
  | with_reducible refine' w_addI ?_ | with_reducible refine' w_subI ?_ | with_reducible refine' w_eqI ?_ | with_reducible refine' w_neI ?_ | with_reducible refine' w_lt ?_ | with_reducible refine' w_le ?_ | with_reducible refine' w_gt ?_ | with_reducible refine' w_ge ?_ | with_reducible refine' w_eqS ?_ | with_reducible refine' w_neS ?_ | with_reducible refine' isN_I ?_ | with_reducible refine' isN_S ?_ | with_reducible refine' isN_B ?_ | with_reducible refine' isN_R ?_ | with_reducible refine' isN_N ?_ | with_reducible refine' isNot_I ?_ | with_reducible refine' isNot_S ?_ | with_reducible refine' isNot_B ?_ | with_reducible refine' isNot_R ?_ | with_reducible refine' isNot_N ?_ | with_reducible refine' w_isN ?_ | with_reducible refine' w_isNotN ?_ | with_reducible refine' w_ord1 ?_
  | ((with_reducible refine' w_modI ?h ?_); (case h => walk_at "do")) | ((with_reducible refine' w_divI ?h ?h2 ?_); (case h => walk_at "do"); (case h2 => walk_at "do")) | ((with_reducible refine' w_mulI ?h ?_); (case h => walk_at "cm")) | with_reducible refine' w_negI ?_ | with_reducible refine' w_un ?_
  | with_reducible refine' w_intI ?_ | with_reducible refine' w_intB ?_ | with_reducible refine' w_abs ?_ | with_reducible refine' w_not ?_ | with_reducible refine' w_and ?_ | with_reducible refine' w_or ?_ | with_reducible refine' w_if ?_ | with_reducible refine' w_notV ?_ | with_reducible refine' w_andV ?_ | with_reducible refine' w_orV ?_ | with_reducible refine' w_chain ?_
  | with_reducible refine' w_tTr ?_ | with_reducible refine' w_trB ?_ | with_reducible refine' w_trI ?_ | with_reducible refine' w_trN ?_ | with_reducible refine' w_tB ?_ | ((with_reducible refine' w_augI ?h ?_); (case h => exact rfl)) | with_reducible refine' w_int ?_
  | with_reducible refine' w_lst ?_ | with_reducible refine' w_tup ?_ | ((with_reducible refine' w_newL ?h ?_); (case h => walk_at "sz")) | ((with_reducible refine' w_newT ?h ?_); (case h => walk_at "sz"))
  | with_reducible refine' w_sl ?_ | with_reducible refine' w_noPart ?_ | with_reducible refine' w_part ?_ | with_reducible refine' w_partI ?_ | with_reducible refine' w_bm0 ?_ | with_reducible refine' w_bm ?_ | with_reducible refine' w_sub ?_ | with_reducible refine' w_gCons ?_ | with_reducible refine' w_gNil ?_
  | ((with_reducible refine' w_ixL ?h ?h2 ?_); (case h => walk_at "hs"); (case h2 => first | exact rfl | exact atI_last)) | ((with_reducible refine' w_ixT ?h ?h2 ?_); (case h => walk_at "ht"); (case h2 => exact rfl))
  | ((with_reducible refine' w_lenL ?h ?_); (case h => walk_at "hs")) | ((with_reducible refine' w_lenT ?h ?_); (case h => walk_at "ht"))
  | ((with_reducible refine' w_tyL ?h ?_); (case h => walk_at "hh")) | with_reducible refine' w_tyS ?_ | ((with_reducible refine' w_append ?h ?h2 ?_); (case h => walk_at "hh"); (case h2 => walk_at "sz"))
  | ((with_reducible show Ends.rt _ _ _); dsimp only) | ((with_reducible show Ends.bk _ _ _); dsimp only) | ((with_reducible show Ends.ct _ _ _); dsimp only) | with_reducible refine' w_break ?_ | with_reducible refine' w_cont ?_ | with_reducible refine' w_retN ?_
  | with_reducible refine' w_for ?_ | with_reducible refine' w_lc ?_ | with_reducible refine' w_iAny ?_ | with_reducible refine' w_iRng1 ?_ | with_reducible refine' w_iRng2 ?_ | with_reducible refine' w_iEnum ?_ | with_reducible refine' w_iZip ?_ | with_reducible refine' w_iRev ?_
  | ((with_reducible refine' w_rng ?h ?h2 ?_); (case h => walk_at "do"); (case h2 => walk_at "do")) | ((with_reducible refine' w_rng2 ?h ?h2 ?h3 ?h4 ?_); (case h => walk_at "do"); (case h2 => walk_at "do"); (case h3 => walk_at "do"); (case h4 => walk_at "do"))
  | ((with_reducible refine' w_itL ?h ?_); (case h => walk_at "hs")) | ((with_reducible refine' w_itT ?h ?_); (case h => walk_at "ht")) | with_reducible refine' w_itS ?_ | ((with_reducible refine' w_itRL ?h ?_); (case h => walk_at "hs")) | ((with_reducible refine' w_itRT ?h ?_); (case h => walk_at "ht"))
  | ((with_reducible refine' w_itEn ?h ?_); (case h => walk_at "hs")) | ((with_reducible refine' w_itZ ?h ?h2 ?_); (case h => walk_at "hs"); (case h2 => walk_at "hs"))
  | ((with_reducible show wipe _ _ = wipe _ _ ∧ _); refine ⟨rfl, ?_⟩) | with_reducible refine' w_yes1 ?_ | with_reducible refine' w_whT ?_
  | with_reducible refine' isI_int ?_ | with_reducible refine' isI_bool ?_ | with_reducible refine' isI_str ?_ | with_reducible refine' isI_tuple ?_ | with_reducible refine' isI_list ?_
  | with_reducible refine' isS_int ?_ | with_reducible refine' isS_bool ?_ | with_reducible refine' isS_str ?_ | with_reducible refine' isS_tuple ?_ | with_reducible refine' isS_list ?_
  | with_reducible refine' isN_int ?_ | with_reducible refine' isN_bool ?_ | with_reducible refine' isN_str ?_ | with_reducible refine' isN_tuple ?_ | with_reducible refine' isN_list ?_
  | with_reducible refine' isB_int ?_ | with_reducible refine' isB_bool ?_ | with_reducible refine' isB_str ?_ | with_reducible refine' isB_tuple ?_ | with_reducible refine' isB_list ?_
  | ((with_reducible refine' isT_int ?h ?_); (case h => walk_at "ht")) | ((with_reducible refine' isT_bool ?h ?_); (case h => walk_at "ht")) | ((with_reducible refine' isT_str ?h ?_); (case h => walk_at "ht")) | ((with_reducible refine' isT_tuple ?h ?_); (case h => walk_at "ht")) | ((with_reducible refine' isT_list ?h ?_); (case h => walk_at "ht"))
  | ((with_reducible refine' isL_int ?h ?_); (case h => walk_at "hs")) | ((with_reducible refine' isL_bool ?h ?_); (case h => walk_at "hs")) | ((with_reducible refine' isL_str ?h ?_); (case h => walk_at "hs")) | ((with_reducible refine' isL_tuple ?h ?_); (case h => walk_at "hs")) | ((with_reducible refine' isL_list ?h ?_); (case h => walk_at "hs"))
  | ((with_reducible refine' w_popC ?h ?_); (case h => walk_at "hh")) | ((with_reducible refine' w_tuple ?h ?_); (case h => walk_at "hs"))
  | with_reducible refine' w_snoc ?_ | with_reducible refine' w_snocN ?_ | with_reducible refine' w_conz ?_ | with_reducible refine' w_conzN ?_ | with_reducible refine' w_nilz ?_ | with_reducible refine' w_nilzN ?_
  | ((with_reducible refine' w_gTup ?h ?h2 ?_); (case h => walk_at "ht"); (case h2 => exact rfl))
  | ((with_reducible refine' w_powI ?h ?_); (case h => exact ⟨by decide, by decide, by decide⟩))
  | ((with_reducible refine' w_setL ?h ?h2 ?_); (case h => walk_at "hh"); (case h2 => exact rfl))
  | with_reducible refine' w_listRev ?_ | ((with_reducible refine' w_lRev ?h ?_); (case h => walk_at "ht"))
  | ((with_reducible refine' w_slL ?h ?_); (case h => walk_at "hs")) | ((with_reducible refine' w_list ?h ?_); (case h => walk_at "hs")) | ((with_reducible refine' w_extend ?h ?h2 ?h3 ?_); (case h => walk_at "hh"); (case h2 => walk_at "hh"); (case h3 => walk_at "sz"))
  | ((with_reducible refine' w_trL ?h ?_); (case h => walk_at "hs")) | ((with_reducible refine' w_trT ?h ?_); (case h => walk_at "ht"))
  | ((with_reducible refine' w_addL ?h ?h2 ?h3 ?_); (case h => walk_at "hh"); (case h2 => walk_at "hh"); (case h3 => walk_at "sz"))
  | ((with_reducible refine' w_eqN ?h ?h2 ?_); (case h => walk_at "hs"); (case h2 => walk_at "hs")) | ((with_reducible refine' w_neN ?h ?h2 ?_); (case h => walk_at "hs"); (case h2 => walk_at "hs"))
  | with_reducible refine' w_nt ?_ | with_reducible refine' w_nf ?_
  | with_reducible refine' iteT ?_ | with_reducible refine' iteF ?_)
local macro_rules | `(tactic| walk_at "wl") => `(tactic| repeat (walk_at "ws"))
def spLPack (K : PySem.W.Frag) (m : Nat) : Sp := fun vs H Q _ => ∃ (v : V) (d : PyData), vs = [v] ∧ Dp K H v d ∧ good d = true ∧ deep d < m ∧ (packD d).length ≤ 100000 ∧ RetL (vN (packD d)) H Q
theorem lp0 {K : PySem.W.Frag} {vs : List V} {H : Hp} {Q : VK} {E : XK} (h : spLPack K 0 vs H Q E) : False := by
  obtain ⟨_, _, _, _, _, h, _⟩ := h
  cases h
theorem deeps_get {ds : List PyData} {i : Nat} {d : PyData} (h : ds[i]? = some d) : deep d ≤ deeps ds := by
  induction ds generalizing i with
  | nil => cases h
  | cons e ds ih =>
    cases i with
    | zero =>
      cases h
      exact Nat.le_max_left ..
    | succ i => exact Nat.le_trans (ih (i := i) (by simpa using h)) (Nat.le_max_right ..)
theorem goods_get {ds : List PyData} {i : Nat} {d : PyData} (hg : goods ds = true) (h : ds[i]? = some d) : good d = true := by
  induction ds generalizing i with
  | nil => cases h
  | cons e ds ih =>
    rw [goods_cons, Bool.and_eq_true] at hg
    cases i with
    | zero =>
      cases h
      exact hg.1
    | succ i => exact ih (i := i) hg.2 (by simpa using h)
theorem packDs_take {ds : List PyData} {i : Nat} {d : PyData} (h : ds[i]? = some d) : packDs (ds.take (i + 1)) = packDs (ds.take i) ++ packD d := by
  rw [List.take_add_one, h, packDs_app]
  show packDs (ds.take i) ++ packDs [d] = _
  rw [packDs_cons, packDs_nil, List.append_nil]
theorem packDs_take_len (ds : List PyData) (i : Nat) : (packDs (ds.take i)).length ≤ (packDs ds).length := by
  have e := congrArg (fun z => (packDs z).length) (List.take_append_drop i ds)
  simp only [packDs_app, List.length_append] at e
  omega
section
variable {P : Program} {w : World} {K : PySem.W.Frag} {mg : Str → Option Value} {base : Heap} {f : Addr} {fd : FuncData}
theorem ok_law_pack (T : Tx K mg) (F : FunD K "_law_pack" "_law_pack" (defArgs s_law_pack) (defBody s_law_pack) (defScope s_law_pack) [] [] f fd) (hm : mg "_law_pack" = some (.ref f)) (kp : PySem.W.keepIn K (.ref f) = true) (hb : Binds K fd ["data"] []) (G_law_low : Fn P w K mg base 1 "_law_low" spLow) : ∀ m, FnOkR P w K mg base (m + 2) f fd ["data"] (spLPack K m)
  | 0 => ⟨fun vs H Q E h => (lp0 h).elim, fun A outer s H args us vs Q E hr he hb hv h => (lp0 h).elim⟩
  | m + 1 => by
    have G_law_pack : Fn P w K mg base (m + 2) "_law_pack" (spLPack K m) := ⟨f, fd, _, ok_law_pack T F hm kp hb G_law_low m, hm, kp, hb⟩
    refine okR F sc_law_pack (fun vs H Q E h => ?_) (fun cdv A outer s H vs Q E hr h => ?_)
    · obtain ⟨v, d, rfl, _⟩ := h
      rfl
    · obtain ⟨v, d, rfl, hd, hg, hdeep, hsz, k⟩ := h
      refine ⟨_, (pss_cons (ps_if (pt_cmpR opIs (pv 0) pe_non (nomark _)) (pss_one (ps_ret (pe_lst (pa_cons pe_int pa_nil)))) pss_nil)
      (pss_cons (ps_if (trK (K := K) (pe_callB (cIsiK (K := K)) (by rfl) T.b_isinstance bt_isinstance (pa_cons (pv 0) (pa_cons (pe_bltn (v := .ty "str") (by rfl) T.b_str bt_str rfl) pa_nil)))) (pss_one (ps_ret (pe_op (opAddK (K := K)) (pe_op (opAddK (K := K)) (pe_lst (pa_cons pe_int pa_nil)) (pe_f G_law_low hr (by omega) rfl (fun σ => px (takes_of rfl rfl rfl rfl) σ) (pa_cons (pe_callB (cLenK (K := K)) (by rfl) T.b_len PySem.boot_len (pa_cons (pv 0) pa_nil)) (pa_cons pe_int pa_nil)))) (pe_lc (own := [("sign", 5)]) rfl sc_law_pack.nd (anyK (K := K) (pv 0)) (blkOk_by (own := [("sign", 5)]) (N := ["data", "size", "rest", "octets", "one", "sign"]) (sc := defScope s_law_pack) (by decide +kernel)) (fun _ _ _ _ _ => (pg_name (i := 5) sc_law_pack.nd rfl (Or.inl rfl))) (fun _ _ _ _ _ => pts_nil) (fun _ _ _ _ _ => (pe_callB cOrd (by rfl) T.b_ord bt_ord (pa_cons (pv 5) pa_nil))))))) pss_nil)
      (pss_cons (ps_if (trK (K := K) (pe_callB (cIsiK (K := K)) (by rfl) T.b_isinstance bt_isinstance (pa_cons (pv 0) (pa_cons (pe_bltn (v := .ty "int") (by rfl) T.b_int bt_int rfl) pa_nil)))) (pss_cons (ps_set (i := 1) sc_law_pack.nd rfl (Or.inl rfl) pe_int)
      (pss_cons (ps_set (i := 2) sc_law_pack.nd rfl (Or.inl rfl) (pe_callB cAbs (by rfl) T.b_abs bt_abs (pa_cons (pv 0) pa_nil)))
      (pss_cons (ps_while (passes_of rfl) (pt_cmpR opGt (pv 2) pe_int (nomark _)) (pss_cons (ps_set (i := 1) sc_law_pack.nd rfl (Or.inl rfl) (pe_op (opAddK (K := K)) (pv 1) pe_int))
      (pss_one (ps_set (i := 2) sc_law_pack.nd rfl (Or.inl rfl) (pe_op opDiv (pv 2) pe_int)))))
      (pss_one (ps_ret (pe_op (opAddK (K := K)) (pe_lst (pa_cons (pe_op (opAddK (K := K)) pe_int (pe_callTy cInt (by rfl) T.b_int bt_int (pa_cons (pe_cmpR opLt (pv 0) pe_int (nomark _)) pa_nil))) (pa_cons (pv 1) pa_nil))) (pe_f G_law_low hr (by omega) rfl (fun σ => px (takes_of rfl rfl rfl rfl) σ) (pa_cons (pe_callB cAbs (by rfl) T.b_abs bt_abs (pa_cons (pv 0) pa_nil)) (pa_cons (pv 1) pa_nil))))))))) pss_nil)
      (pss_cons (ps_set (i := 3) sc_law_pack.nd rfl (Or.inl rfl) (pe_op (opAddK (K := K)) (pe_lst (pa_cons pe_int pa_nil)) (pe_f G_law_low hr (by omega) rfl (fun σ => px (takes_of rfl rfl rfl rfl) σ) (pa_cons (pe_callB (cLenK (K := K)) (by rfl) T.b_len PySem.boot_len (pa_cons (pv 0) pa_nil)) (pa_cons pe_int pa_nil)))))
      (pss_cons (ps_for (passes_of rfl) rfl (anyK (K := K) (pv 0)) (pg_name (i := 4) sc_law_pack.nd rfl (Or.inl rfl)) (pss_one (ps_set (i := 3) sc_law_pack.nd rfl (Or.inl rfl) (pe_op (opAddK (K := K)) (pv 3) (pe_f G_law_pack hr (by omega) rfl (fun σ => px (takes_of rfl rfl rfl rfl) σ) (pa_cons (pv 4) pa_nil))))))
      (pss_one (ps_ret (pv 3)))))))), ?_⟩
      cases hd with
      | bl b => unfold good at hg; cases hg
      | lst h1 h2 => unfold good at hg; cases hg
      | non =>
        walk_at "wl"
        intro p H1 hp e1 h1
        walk_at "wl"
        refine k p H1 e1 hp ?_
        rw [h1, packD_plain rfl]
        rfl
      | str z =>
        rw [packD_plain rfl] at hsz k
        have hz : z.length ≤ 65535 ∧ z.cps.toList.all okc = true := by
          unfold good at hg
          rw [Bool.and_eq_true] at hg
          exact ⟨of_decide_eq_true hg.1, hg.2⟩
        have hl : z.cps.toList.length = z.length := by rw [Array.length_toList]; rfl
        walk_at "wl"
        intro p1 H1 hp1 e1 h1
        walk_at "wl"
        refine w_lenS (by omega) ?_
        walk_at "wl"
        refine ⟨z.length, 2, rfl, by omega, ?_⟩
        intro p2 H2 e2 hp2 h2
        have hv2 := vN_len (lowN z.length 2)
        have hl2 := lowN_len z.length 2
        walk_at "wl"
        intro p3 H3 hp3 e3 h3
        walk_at "wl"
        refine w_lcVS (R := fun i => vN (z.cps.toList.take i)) rfl ?_ ?_
        · intro Dl i c H4 hD hc hi e4 h4
          walk_at "wl"
          refine lcV hD e4 h4 ?_ ?_
          · show (vN (z.cps.toList.take i)).length < 1000000
            rw [vN_len, List.length_take]
            omega
          · show vN (z.cps.toList.take (i + 1)) = vN (z.cps.toList.take i) ++ [.int (c : Nat)]
            have hc2 : z.cps.toList[i]? = some c := by rw [← hc]; exact Array.getElem?_toList ..
            rw [List.take_add_one, hc2, vN_app]
            rfl
        · intro p4 H4 hp4 e4 h4
          have h4' : H4 p4 = some (.lst (vN z.cps.toList)) := by
            rw [h4]
            show some (HO.lst (vN (z.cps.toList.take z.cps.size))) = _
            rw [List.take_of_length_le (by rw [Array.length_toList]; exact Nat.le_refl _)]
          have hv4 := vN_len z.cps.toList
          refine w_addL (by walk_at "hh") h4' (by walk_at "sz") ?_
          intro p5 H5 hp5 e5 h5
          walk_at "wl"
          refine k p5 H5 (by walk_at "hx") (by walk_at "hn") ?_
          rw [h5]
          show some (HO.lst ((vN [3] ++ vN (lowN z.length 2)) ++ vN z.cps.toList)) = some (HO.lst (vN (3 :: (lowN z.length 2 ++ z.cps.toList))))
          rw [← vN_app, ← vN_app]
          rfl
      | int i =>
        rw [packD_plain rfl] at hsz k
        have hs : (sizeN i.natAbs).length ≤ 255 := by unfold good at hg; exact of_decide_eq_true hg
        have hv := vN_len (sizeN i.natAbs)
        walk_at "wl"
        have e : (if i < 0 then -i else i) = ((i.natAbs : Nat) : Int) := by split <;> omega
        refine w_while (fun m σ H' => ∃ j, j ≤ (sizeN i.natAbs).length ∧ m + j = (sizeN i.natAbs).length ∧ H' = H ∧ ∃ o3 o4 o5, σ = [some (.int i), some (.int (j : Nat)), some (.int (shrN i.natAbs j : Nat)), o3, o4, o5]) _ ⟨0, Nat.zero_le _, rfl, rfl, _, _, _, by rw [e]; rfl⟩ ?_
        rintro m σ H2 ⟨j, hj, hmj, rfl, o3, o4, o5, rfl⟩
        walk_at "wl"
        refine w_dec (fun hp => ?_) (fun hp => ?_)
        · have hne : shrN i.natAbs j ≠ 0 := by omega
          have hlt := sizeN_shr i.natAbs j hne
          walk_at "wl"
          exact ⟨m - 1, by omega, j + 1, by omega, by omega, rfl, _, _, _, by rw [shrN_succ]; rfl⟩
        · have hz : shrN i.natAbs j = 0 := by omega
          have hle := size_shr0 i.natAbs j hz
          have hj2 : j = (sizeN i.natAbs).length := by omega
          walk_at "wl"
          intro p1 H1 hp1 e1 h1
          walk_at "wl"
          rw [e]
          refine ⟨i.natAbs, j, rfl, by omega, ?_⟩
          intro p2 H2 e2 hp2 h2
          rw [hj2, low_size] at h2
          walk_at "wl"
          intro p3 H3 hp3 e3 h3
          walk_at "wl"
          refine k p3 H3 (by walk_at "hx") (by walk_at "hn") ?_
          rw [h3, hj2]
          by_cases hn : i < 0
          · simp only [plainO]
            rw [if_pos hn]
            simp only [decide_eq_true hn, if_true]
            rfl
          · simp only [plainO]
            rw [if_neg hn]
            simp only [decide_eq_false hn]
            rfl
      | tup hs ha =>
        rename_i a xs dd
        rw [good_tup, Bool.and_eq_true] at hg
        rw [packD_tup] at hsz k
        have hld := da_len ha
        have hll := lowN_len dd.length 2
        have hvl := vN_len (lowN dd.length 2)
        simp only [List.length_cons, List.length_append] at hsz
        have hdd : deeps dd < m := by
          have : deeps dd + 1 < m + 1 := hdeep
          omega
        have hd65 := of_decide_eq_true hg.1
        walk_at "wl"
        intro p5 H5 hp5 e5 h5
        walk_at "wl"
        rw [hld]
        refine ⟨dd.length, 2, rfl, by omega, ?_⟩
        intro p6 H6 e6 hp6 h6
        walk_at "wl"
        intro p7 H7 hp7 e7 h7
        have e07 : Ex H H7 := by walk_at "hx"
        have hs7 := e07.t hs
        walk_at "wl"
        refine w_forT (xs := xs) (fun i σ H' => ∃ p o4 o5 o6 o7, σ = [some (.ref a), o4, o5, some (.ref p), o6, o7] ∧ Ex H H' ∧ H p = none ∧ H' p = some (.lst (vN (4 :: (lowN dd.length 2 ++ packDs (dd.take i)))))) ⟨p7, _, _, _, _, rfl, e07, ?_, ?_⟩ ?_ ?_ ?_
        · exact (e5.trans e6).fresh hp7
        · rw [h7, List.take_zero, packDs_nil, List.append_nil]
          rfl
        · rintro i σ H8 hi ⟨p, o4, o5, o6, o7, rfl, e8, hp, h8⟩
          exact e8.t hs
        · rintro i x σ H8 hx ⟨p, o4, o5, o6, o7, rfl, e8, hp, h8⟩
          obtain ⟨d1, hd1, hdx⟩ := da_getV ha hx
          have g1 := goods_get hg.2 hd1
          have dp1 := deeps_get hd1
          have pt := packDs_take hd1
          have pl := packDs_take_len dd (i + 1)
          rw [pt, List.length_append] at pl
          walk_at "wl"
          refine ⟨x, d1, rfl, dp_ex e8 hdx, g1, by omega, by omega, ?_⟩
          intro p9 H9 e9 hp9 h9
          walk_at "wl"
          refine w_addL (by walk_at "hh") h9 ?_ ?_
          · rw [vN_len, vN_len]
            simp only [List.length_cons, List.length_append]
            omega
          · intro p10 H10 hp10 e10 h10
            walk_at "wl"
            refine ⟨p10, _, _, _, _, rfl, by walk_at "hx", by walk_at "hn", ?_⟩
            rw [h10, pt, ← vN_app]
            simp
        · rintro σ H8 ⟨p, o4, o5, o6, o7, rfl, e8, hp, h8⟩
          walk_at "wl"
          refine k p H8 e8 hp ?_
          rw [h8, List.take_of_length_le (by omega)]
end
end K47

namespace K47
open PySem PySem.Spec PyProof.Rows L2 Hf
local macro_rules | `(tactic| walk_at "hh") => `(tactic| first | assumption | exact Chg.at_ (by assumption) | (refine Ex.use (by assumption) ?_; walk_at "hh") | (refine Chg.use (by assumption) ?_ ?_; (walk_at "hne"); (walk_at "hh")))
local macro_rules | `(tactic| walk_at "hne") => `(tactic| first | assumption | exact Ne.symm (by assumption) | exact ne_fresh (by assumption) (by walk_at "hh") | exact (ne_fresh (by assumption) (by walk_at "hh")).symm)
local macro_rules | `(tactic| walk_at "hn") => `(tactic| first | assumption | exact Ex.fresh (by assumption) (by walk_at "hn") | exact Chg.fresh (by assumption) (by walk_at "hn"))
local macro_rules | `(tactic| walk_at "hx") => `(tactic| first | assumption | exact Ex.refl _ | (refine Ex.trans ?_ (by assumption); walk_at "hx") | (refine Chg.ex ?_ (by assumption) ?_; (walk_at "hx"); (walk_at "hn")))
local macro_rules | `(tactic| walk_at "hs") => `(tactic| first | assumption | exact SqL.of (by walk_at "hh") | exact Ex.l (by walk_at "hx") (by assumption) | (refine Chg.l (by assumption) ?_ ?_; (walk_at "hne"); (walk_at "hs")))
local macro_rules | `(tactic| walk_at "ht") => `(tactic| first | assumption | exact SqT.of (by walk_at "hh") | exact Ex.t (by walk_at "hx") (by assumption) | (refine Chg.t (by assumption) ?_ ?_; (walk_at "hne"); (walk_at "ht")))
local macro_rules | `(tactic| walk_at "sz") => `(tactic| first | decide | omega | (simp only [List.length_append, List.length_cons, List.length_nil, List.length_map, List.length_reverse] <;> omega))
local macro_rules | `(tactic| walk_at "cm") => `(tactic| first | exact .inr ⟨by decide, by decide⟩ | exact .inl ⟨by decide, by decide⟩ | exact .inr ⟨by omega, by omega⟩ | exact .inl ⟨by omega, by omega⟩)
local macro_rules | `(tactic| walk_at "do") => `(tactic| first | decide | omega)
local macro_rules | `(tactic| walk_at "ws") => `(tactic| first
  | ((with_reducible refine' w_var ?h ?_); (case h => exact rfl)) | with_reducible refine' w_c ?_ | with_reducible refine' w_op ?_ | with_reducible refine' w_seq ?_ | with_reducible refine' w_asg ?_ | with_reducible refine' w_gName ?_ | ((with_reducible show Ends.nx _ _ _); dsimp only) | with_reducible refine' w_cons ?_ | with_reducible refine' w_nil ?_ | with_reducible refine' w_cb ?_ | with_reducible refine' w_cal ?_
  | with_reducible refine' w_drop ?_ | with_reducible refine' w_ret ?_ | with_reducible refine' w_ifS ?_ | with_reducible refine' w_test ?_ | with_reducible refine' w_bl ?_ | with_reducible refine' w_next ?_
  | with_reducible refine' w_addI ?_ | with_reducible refine' w_subI ?_ | with_reducible refine' w_eqI ?_ | with_reducible refine' w_neI ?_ | with_reducible refine' w_lt ?_ | with_reducible refine' w_le ?_ | with_reducible refine' w_gt ?_ | with_reducible refine' w_ge ?_ | with_reducible refine' w_eqS ?_ | with_reducible refine' w_neS ?_ | with_reducible refine' isN_I ?_ | with_reducible refine' isN_S ?_ | with_reducible refine' isN_B ?_ | with_reducible refine' isN_R ?_ | with_reducible refine' isN_N ?_ | with_reducible refine' isNot_I ?_ | with_reducible refine' isNot_S ?_ | with_reducible refine' isNot_B ?_ | with_reducible refine' isNot_R ?_ | with_reducible refine' isNot_N ?_ | with_reducible refine' w_isN ?_ | with_reducible refine' w_isNotN ?_ | with_reducible refine' w_ord1 ?_
  | ((with_reducible refine' w_modI ?h ?_); (case h => walk_at "do")) | ((with_reducible refine' w_divI ?h ?h2 ?_); (case h => walk_at "do"); (case h2 => walk_at "do")) | ((with_reducible refine' w_mulI ?h ?_); (case h => walk_at "cm")) | with_reducible refine' w_negI ?_ | with_reducible refine' w_un ?_
  | with_reducible refine' w_intI ?_ | with_reducible refine' w_intB ?_ | with_reducible refine' w_abs ?_ | with_reducible refine' w_not ?_ | with_reducible refine' w_and ?_ | with_reducible refine' w_or ?_ | with_reducible refine' w_if ?_ | with_reducible refine' w_notV ?_ | with_reducible refine' w_andV ?_ | with_reducible refine' w_orV ?_ | with_reducible refine' w_chain ?_
  | with_reducible refine' w_tTr ?_ | with_reducible refine' w_trB ?_ | with_reducible refine' w_trI ?_ | with_reducible refine' w_trN ?_ | with_reducible refine' w_tB ?_ | ((with_reducible refine' w_augI ?h ?_); (case h => exact rfl)) | with_reducible refine' w_int ?_
  | with_reducible refine' w_lst ?_ | with_reducible refine' w_tup ?_ | ((with_reducible refine' w_newL ?h ?_); (case h => walk_at "sz")) | ((with_reducible refine' w_newT ?h ?_); (case h => walk_at "sz"))
  | with_reducible refine' w_sl ?_ | with_reducible refine' w_noPart ?_ | with_reducible refine' w_part ?_ | with_reducible refine' w_partI ?_ | with_reducible refine' w_bm0 ?_ | with_reducible refine' w_bm ?_ | with_reducible refine' w_sub ?_ | with_reducible refine' w_gCons ?_ | with_reducible refine' w_gNil ?_
  | ((with_reducible refine' w_ixL ?h ?h2 ?_); (case h => walk_at "hs"); (case h2 => first | exact rfl | exact atI_last)) | ((with_reducible refine' w_ixT ?h ?h2 ?_); (case h => walk_at "ht"); (case h2 => exact rfl))
  | ((with_reducible refine' w_lenL ?h ?_); (case h => walk_at "hs")) | ((with_reducible refine' w_lenT ?h ?_); (case h => walk_at "ht"))
  | ((with_reducible refine' w_tyL ?h ?_); (case h => walk_at "hh")) | with_reducible refine' w_tyS ?_ | ((with_reducible refine' w_append ?h ?h2 ?_); (case h => walk_at "hh"); (case h2 => walk_at "sz"))
  | ((with_reducible show Ends.rt _ _ _); dsimp only) | ((with_reducible show Ends.bk _ _ _); dsimp only) | ((with_reducible show Ends.ct _ _ _); dsimp only) | with_reducible refine' w_break ?_ | with_reducible refine' w_cont ?_ | with_reducible refine' w_retN ?_
  | with_reducible refine' w_for ?_ | with_reducible refine' w_lc ?_ | with_reducible refine' w_iAny ?_ | with_reducible refine' w_iRng1 ?_ | with_reducible refine' w_iRng2 ?_ | with_reducible refine' w_iEnum ?_ | with_reducible refine' w_iZip ?_ | with_reducible refine' w_iRev ?_
  | ((with_reducible refine' w_rng ?h ?h2 ?_); (case h => walk_at "do"); (case h2 => walk_at "do")) | ((with_reducible refine' w_rng2 ?h ?h2 ?h3 ?h4 ?_); (case h => walk_at "do"); (case h2 => walk_at "do"); (case h3 => walk_at "do"); (case h4 => walk_at "do"))
  | ((with_reducible refine' w_itL ?h ?_); (case h => walk_at "hs")) | ((with_reducible refine' w_itT ?h ?_); (case h => walk_at "ht")) | with_reducible refine' w_itS ?_ | ((with_reducible refine' w_itRL ?h ?_); (case h => walk_at "hs")) | ((with_reducible refine' w_itRT ?h ?_); (case h => walk_at "ht"))
  | ((with_reducible refine' w_itEn ?h ?_); (case h => walk_at "hs")) | ((with_reducible refine' w_itZ ?h ?h2 ?_); (case h => walk_at "hs"); (case h2 => walk_at "hs"))
  | ((with_reducible show wipe _ _ = wipe _ _ ∧ _); refine ⟨rfl, ?_⟩) | with_reducible refine' w_yes1 ?_ | with_reducible refine' w_whT ?_
  | with_reducible refine' isI_int ?_ | with_reducible refine' isI_bool ?_ | with_reducible refine' isI_str ?_ | with_reducible refine' isI_tuple ?_ | with_reducible refine' isI_list ?_
  | with_reducible refine' isS_int ?_ | with_reducible refine' isS_bool ?_ | with_reducible refine' isS_str ?_ | with_reducible refine' isS_tuple ?_ | with_reducible refine' isS_list ?_
  | with_reducible refine' isN_int ?_ | with_reducible refine' isN_bool ?_ | with_reducible refine' isN_str ?_ | with_reducible refine' isN_tuple ?_ | with_reducible refine' isN_list ?_
  | with_reducible refine' isB_int ?_ | with_reducible refine' isB_bool ?_ | with_reducible refine' isB_str ?_ | with_reducible refine' isB_tuple ?_ | with_reducible refine' isB_list ?_
  | ((with_reducible refine' isT_int ?h ?_); (case h => walk_at "ht")) | ((with_reducible refine' isT_bool ?h ?_); (case h => walk_at "ht")) | ((with_reducible refine' isT_str ?h ?_); (case h => walk_at "ht")) | ((with_reducible refine' isT_tuple ?h ?_); (case h => walk_at "ht")) | ((with_reducible refine' isT_list ?h ?_); (case h => walk_at "ht"))
  | ((with_reducible refine' isL_int ?h ?_); (case h => walk_at "hs")) | ((with_reducible refine' isL_bool ?h ?_); (case h => walk_at "hs")) | ((with_reducible refine' isL_str ?h ?_); (case h => walk_at "hs")) | ((with_reducible refine' isL_tuple ?h ?_); (case h => walk_at "hs")) | ((with_reducible refine' isL_list ?h ?_); (case h => walk_at "hs"))
  | ((with_reducible refine' w_popC ?h ?_); (case h => walk_at "hh")) | ((with_reducible refine' w_tuple ?h ?_); (case h => walk_at "hs"))
  | with_reducible refine' w_snoc ?_ | with_reducible refine' w_snocN ?_ | with_reducible refine' w_conz ?_ | with_reducible refine' w_conzN ?_ | with_reducible refine' w_nilz ?_ | with_reducible refine' w_nilzN ?_
  | ((with_reducible refine' w_gTup ?h ?h2 ?_); (case h => walk_at "ht"); (case h2 => exact rfl))
  | ((with_reducible refine' w_powI ?h ?_); (case h => exact ⟨by decide, by decide, by decide⟩))
  | ((with_reducible refine' w_setL ?h ?h2 ?_); (case h => walk_at "hh"); (case h2 => exact rfl))
  | with_reducible refine' w_listRev ?_ | ((with_reducible refine' w_lRev ?h ?_); (case h => walk_at "ht"))
  | ((with_reducible refine' w_slL ?h ?_); (case h => walk_at "hs")) | ((with_reducible refine' w_list ?h ?_); (case h => walk_at "hs")) | ((with_reducible refine' w_extend ?h ?h2 ?h3 ?_); (case h => walk_at "hh"); (case h2 => walk_at "hh"); (case h3 => walk_at "sz"))
  | ((with_reducible refine' w_trL ?h ?_); (case h => walk_at "hs")) | ((with_reducible refine' w_trT ?h ?_); (case h => walk_at "ht"))
  | ((with_reducible refine' w_addL ?h ?h2 ?h3 ?_); (case h => walk_at "hh"); (case h2 => walk_at "hh"); (case h3 => walk_at "sz"))
  | ((with_reducible refine' w_eqN ?h ?h2 ?_); (case h => walk_at "hs"); (case h2 => walk_at "hs")) | ((with_reducible refine' w_neN ?h ?h2 ?_); (case h => walk_at "hs"); (case h2 => walk_at "hs"))
  | with_reducible refine' w_nt ?_ | with_reducible refine' w_nf ?_
  | with_reducible refine' iteT ?_ | with_reducible refine' iteF ?_)
local macro_rules | `(tactic| walk_at "wl") => `(tactic| repeat (walk_at "ws"))
def spLPlain (K : PySem.W.Frag) : Sp := fun vs H Q _ => ∃ (b : Addr) (x : Int), vs = [.ref b] ∧ H b = some (.lst [.int x]) ∧
  ∀ v d H', Bx b H H' → Dp K H' v d → good d = true → isTup d = false → (plainO d).length ≤ 303 → (plainO d).count 4 ≤ 9 → Q v H'
theorem size_le : ∀ (k n : Nat), n < 256 ^ k → (sizeN n).length ≤ k
  | 0, n, h => by
    have : n = 0 := by simpa using h
    rw [this, sizeN_zero]
    exact Nat.le_refl _
  | k + 1, n, h => by
    by_cases h0 : n = 0
    · rw [h0, sizeN_zero]; exact Nat.zero_le _
    · rw [sizeN_pos h0, List.length_cons]
      have : n / 256 < 256 ^ k := Nat.div_lt_of_lt_mul (by rw [Nat.mul_comm]; rw [Nat.pow_succ] at h; exact h)
      have := size_le k (n / 256) this
      omega
theorem int_small {i : Int} (h : i.natAbs < 2 ^ 62) : good (.int i) = true ∧ (plainO (.int i)).length ≤ 303 ∧ (plainO (.int i)).count 4 ≤ 9 := by
  have h8 : (sizeN i.natAbs).length ≤ 8 := size_le 8 _ (Nat.lt_trans h (by decide))
  have hl : (plainO (.int i)).length = (sizeN i.natAbs).length + 2 := rfl
  refine ⟨?_, by omega, ?_⟩
  · unfold good
    exact decide_eq_true (by omega)
  · simp only [plainO]
    have h1 : (if i < 0 then 2 else 1) ≠ 4 := by split <;> decide
    have := List.count_le_length (a := 4) (l := (sizeN i.natAbs).length :: sizeN i.natAbs)
    rw [List.length_cons] at this
    rw [List.count_cons_of_ne h1]
    omega
theorem okc4 {l : List Nat} (h : l.all okc = true) : l.count 4 = 0 := by
  rw [List.count_eq_zero]
  intro hm
  have := List.all_eq_true.mp h 4 hm
  exact absurd this (by decide)
theorem str_small {s : Str} (h : s.cps.toList.all okc = true) (hl : s.length ≤ 300) : good (.str s) = true ∧ (plainO (.str s)).length ≤ 303 ∧ (plainO (.str s)).count 4 ≤ 9 := by
  have el : s.cps.toList.length = s.length := by rw [Array.length_toList]; rfl
  refine ⟨?_, ?_, ?_⟩
  · unfold good
    rw [Bool.and_eq_true]
    exact ⟨decide_eq_true (by omega), h⟩
  · simp only [plainO, List.length_cons, List.length_append, lowN_len]
    omega
  · simp only [plainO]
    rw [List.count_cons_of_ne (by decide), List.count_append, okc4 h]
    have := List.count_le_length (a := 4) (l := lowN s.length 2)
    rw [lowN_len] at this
    omega
theorem pick6 : ∀ r : Nat, r < 6 → ∃ m : Nat, 0 < m ∧ m ≤ 2 ^ 60 ∧ atI [V.int 1, V.int 255, V.int 256, V.int 70000, V.int (10 ^ (12 : Int).toNat), V.int (2 ^ (60 : Int).toNat)] (r : Int) = some (.int (m : Int))
  | 0, _ => ⟨1, by decide, by decide, rfl⟩
  | 1, _ => ⟨255, by decide, by decide, rfl⟩
  | 2, _ => ⟨256, by decide, by decide, rfl⟩
  | 3, _ => ⟨70000, by decide, by decide, rfl⟩
  | 4, _ => ⟨10 ^ 12, by decide, by decide, rfl⟩
  | 5, _ => ⟨2 ^ 60, by decide, by decide, rfl⟩
theorem pick2 : ∀ r : Nat, r < 2 → ∃ m : Int, (m = 1 ∨ m = -1) ∧ atI [V.int 1, V.int (-1)] (r : Int) = some (.int m)
  | 0, _ => ⟨1, .inl rfl, rfl⟩
  | 1, _ => ⟨-1, .inr rfl, rfl⟩
theorem pick4 : ∀ r : Nat, r < 4 → ∃ m : Nat, m ≤ 300 ∧ atI [V.int 0, V.int 1, V.int 7, V.int 300] (r : Int) = some (.int (m : Int))
  | 0, _ => ⟨0, by decide, rfl⟩
  | 1, _ => ⟨1, by decide, rfl⟩
  | 2, _ => ⟨7, by decide, rfl⟩
  | 3, _ => ⟨300, by decide, rfl⟩
def some7 : Str := "a Z~\n\"9"
theorem pick7 : ∀ j : Nat, j < 7 → ∃ c, okc c = true ∧ atI some7.cps.toList (j : Int) = some c
  | 0, _ => ⟨97, rfl, rfl⟩
  | 1, _ => ⟨32, rfl, rfl⟩
  | 2, _ => ⟨90, rfl, rfl⟩
  | 3, _ => ⟨126, rfl, rfl⟩
  | 4, _ => ⟨10, rfl, rfl⟩
  | 5, _ => ⟨34, rfl, rfl⟩
  | 6, _ => ⟨57, rfl, rfl⟩
section
variable {P : Program} {w : World} {K : PySem.W.Frag} {mg : Str → Option Value} {base : Heap} {f : Addr} {fd : FuncData}
theorem ok_law_plain (T : Tx K mg) (F : FunD K "_law_plain" "_law_plain" (defArgs s_law_plain) (defBody s_law_plain) (defScope s_law_plain) [] [] f fd) (G_law_take : Fn P w K mg base 1 "_law_take" spTake) : FnOkR P w K mg base 2 f fd ["box"] (spLPlain K) := by
  refine okR F sc_law_plain (fun vs H Q E h => ?_) (fun cdv A outer s H vs Q E hr h => ?_)
  · obtain ⟨b, x, rfl, _⟩ := h
    rfl
  · obtain ⟨b, x, rfl, hb, k⟩ := h
    refine ⟨_, (pss_cons (ps_set (i := 1) sc_law_plain.nd rfl (Or.inl rfl) (pe_f G_law_take hr (by omega) rfl (fun σ => px (takes_of rfl rfl rfl rfl) σ) (pa_cons (pv 0) (pa_cons pe_int pa_nil))))
      (pss_cons (ps_if (pt_cmpR (opEqK (K := K) hr.units) (pv 1) pe_int (nomark _)) (pss_one (ps_ret pe_non)) pss_nil)
      (pss_cons (ps_if (pt_cmpR opLt (pv 1) pe_int (nomark _)) (pss_cons (ps_set (i := 2) sc_law_plain.nd rfl (Or.inl rfl) (pe_ix (ixK (K := K)) (pe_lst (pa_cons pe_int (pa_cons pe_int (pa_cons pe_int (pa_cons pe_int (pa_cons (pe_op opPow pe_int pe_int) (pa_cons (pe_op opPow pe_int pe_int) pa_nil))))))) (pe_f G_law_take hr (by omega) rfl (fun σ => px (takes_of rfl rfl rfl rfl) σ) (pa_cons (pv 0) (pa_cons pe_int pa_nil))) (fun _ _ => rfl)))
      (pss_one (ps_ret (pe_op opMulA (pe_ix (ixK (K := K)) (pe_lst (pa_cons pe_int (pa_cons (pe_un unNeg pe_int) pa_nil))) (pe_f G_law_take hr (by omega) rfl (fun σ => px (takes_of rfl rfl rfl rfl) σ) (pa_cons (pv 0) (pa_cons pe_int pa_nil))) (fun _ _ => rfl)) (pe_op (opAddK (K := K)) (pe_f G_law_take hr (by omega) rfl (fun σ => px (takes_of rfl rfl rfl rfl) σ) (pa_cons (pv 0) (pa_cons (pv 2) pa_nil))) (pe_f G_law_take hr (by omega) rfl (fun σ => px (takes_of rfl rfl rfl rfl) σ) (pa_cons (pv 0) (pa_cons pe_int pa_nil)))))))) pss_nil)
      (pss_cons (ps_set (i := 3) sc_law_plain.nd rfl (Or.inl rfl) pe_str)
      (pss_cons (ps_for (passes_of rfl) rfl (pi_range1 rfl T.b_range (pa_cons (pe_ix (ixK (K := K)) (pe_lst (pa_cons pe_int (pa_cons pe_int (pa_cons pe_int (pa_cons pe_int pa_nil))))) (pe_f G_law_take hr (by omega) rfl (fun σ => px (takes_of rfl rfl rfl rfl) σ) (pa_cons (pv 0) (pa_cons pe_int pa_nil))) (fun _ _ => rfl)) pa_nil)) (pg_name (i := 4) sc_law_plain.nd rfl (Or.inl rfl)) (pss_one (ps_set (i := 3) sc_law_plain.nd rfl (Or.inl rfl) (pe_op (opAddK (K := K)) (pv 3) (pe_ix (ixK (K := K)) pe_str (pe_op opMod (pe_callTy cInt (by rfl) T.b_int bt_int (pa_cons (pe_op (opAddK (K := K)) (pe_op opDiv (pe_ix (ixK (K := K)) (pv 0) pe_int (fun _ _ => rfl)) (pe_op (opAddK (K := K)) (pv 4) pe_int)) (pv 4)) pa_nil)) pe_int) (fun _ _ => rfl))))))
      (pss_one (ps_ret (pv 3)))))))), ?_⟩
    walk_at "wl"
    refine ⟨b, x, 6, rfl, hb, by decide, by decide, ?_⟩
    intro r1 y1 H1 hr1 c1
    walk_at "wl"
    refine w_dec (fun h0 => ?_) (fun h0 => ?_)
    · walk_at "wl"
      exact k .non .none H1 ((Bx.refl hb).chg c1) .non rfl rfl (by decide) (by decide)
    · walk_at "wl"
      refine w_dec (fun h4 => ?_) (fun h4 => ?_)
      · walk_at "wl"
        intro p2 H2 hp2 e2 h2
        walk_at "wl"
        refine ⟨b, y1, 6, rfl, e2.use c1.at_, by decide, by decide, ?_⟩
        intro r3 y3 H3 hr3 c3
        obtain ⟨m, hm0, hm1, hat⟩ := pick6 r3 hr3
        have n2 : p2 ≠ b := (ne_fresh hp2 c1.at_).symm
        walk_at "wl"
        refine w_ixL (SqL.of (c3.use n2 h2)) hat ?_
        walk_at "wl"
        intro p4 H4 hp4 e4 h4
        walk_at "wl"
        refine ⟨b, y3, 2, rfl, e4.use c3.at_, by decide, by decide, ?_⟩
        intro r5 y5 H5 hr5 c5
        obtain ⟨sg, hsg, hat5⟩ := pick2 r5 hr5
        have n4 : p4 ≠ b := (ne_fresh hp4 c3.at_).symm
        walk_at "wl"
        refine w_ixL (SqL.of (c5.use n4 h4)) hat5 ?_
        walk_at "wl"
        refine ⟨b, y5, m, rfl, c5.at_, hm0, Nat.le_trans hm1 (by decide), ?_⟩
        intro r6 y6 H6 hr6 c6
        walk_at "wl"
        refine ⟨b, y6, 2, rfl, c6.at_, by decide, by decide, ?_⟩
        intro r7 y7 H7 hr7 c7
        walk_at "wl"
        have hn : (sg * ((r6 : Int) + (r7 : Int))).natAbs < 2 ^ 62 := by
          have h60 : (2 : Nat) ^ 60 = 1152921504606846976 := by decide
          have h62 : (2 : Nat) ^ 62 = 4611686018427387904 := by decide
          rcases hsg with rfl | rfl <;> omega
        obtain ⟨g1, g2, g3⟩ := int_small hn
        have bx : Bx b H H7 := (((((Bx.refl hb).chg c1).ext e2).chg c3).ext e4).chg c5 |>.chg c6 |>.chg c7
        exact k _ _ H7 bx (.int _) g1 rfl g2 g3
      · walk_at "wl"
        intro p2 H2 hp2 e2 h2
        walk_at "wl"
        refine ⟨b, y1, 4, rfl, e2.use c1.at_, by decide, by decide, ?_⟩
        intro r3 y3 H3 hr3 c3
        obtain ⟨m, hm1, hat⟩ := pick4 r3 hr3
        have n2 : p2 ≠ b := (ne_fresh hp2 c1.at_).symm
        walk_at "wl"
        refine w_ixL (SqL.of (c3.use n2 h2)) hat ?_
        have hb3 : H3 b = some (.lst [.int y3]) := c3.at_
        have bx : Bx b H H3 := (((Bx.refl hb).chg c1).ext e2).chg c3
        walk_at "wl"
        rw [Int.toNat_natCast]
        refine w_forR (fun i σ H' => H' = H3 ∧ ∃ (o1 o2 o4 : Option V) (s : Str), σ = [some (.ref b), o1, o2, some (.str s), o4] ∧ s.length = i ∧ s.cps.toList.all okc = true) ⟨rfl, _, _, _, ("" : Str), rfl, rfl, rfl⟩ ?_ ?_
        · rintro i σ H4 hi ⟨rfl, o1, o2, o4, s, rfl, hs, hok⟩
          walk_at "wl"
          generalize hz : (y3 / (0 + (i : Int) + 1) + (0 + (i : Int))) % 7 = z
          have hz0 : 0 ≤ z := by rw [← hz]; exact Int.emod_nonneg _ (by decide)
          have hz7 : z < 7 := by rw [← hz]; exact Int.emod_lt_of_pos _ (by decide)
          obtain ⟨j, rfl⟩ : ∃ j : Nat, z = (j : Int) := ⟨z.toNat, by omega⟩
          obtain ⟨c, hc, hcat⟩ := pick7 j (by omega)
          refine w_ixS (by decide) hcat ?_
          have hlc : (⟨#[c]⟩ : Str).length = 1 := rfl
          refine w_addS (by omega) ?_
          walk_at "wl"
          refine ⟨rfl, _, _, _, s ++ ⟨#[c]⟩, rfl, ?_, ?_⟩
          · rw [← hs]
            exact (Array.size_append ..)
          · show (s.cps ++ #[c]).toList.all okc = true
            rw [Array.toList_append, List.all_append, hok]
            show (true && (okc c && true)) = true
            rw [hc]
            rfl
        · rintro σ H4 ⟨rfl, o1, o2, o4, s, rfl, hs, hok⟩
          walk_at "wl"
          obtain ⟨g1, g2, g3⟩ := str_small hok (by omega)
          exact k _ _ _ bx (.str _) g1 rfl g2 g3
end
end K47

namespace K47
open PySem PySem.Spec PyProof.Rows L2 Hf
local macro_rules | `(tactic| walk_at "hh") => `(tactic| first | assumption | exact Chg.at_ (by assumption) | (refine Ex.use (by assumption) ?_; walk_at "hh") | (refine Chg.use (by assumption) ?_ ?_; (walk_at "hne"); (walk_at "hh")))
local macro_rules | `(tactic| walk_at "hne") => `(tactic| first | assumption | exact Ne.symm (by assumption) | exact ne_fresh (by assumption) (by walk_at "hh") | exact (ne_fresh (by assumption) (by walk_at "hh")).symm)
local macro_rules | `(tactic| walk_at "hn") => `(tactic| first | assumption | exact Ex.fresh (by assumption) (by walk_at "hn") | exact Chg.fresh (by assumption) (by walk_at "hn"))
local macro_rules | `(tactic| walk_at "hx") => `(tactic| first | assumption | exact Ex.refl _ | (refine Ex.trans ?_ (by assumption); walk_at "hx") | (refine Chg.ex ?_ (by assumption) ?_; (walk_at "hx"); (walk_at "hn")))
local macro_rules | `(tactic| walk_at "hs") => `(tactic| first | assumption | exact SqL.of (by walk_at "hh") | exact Ex.l (by walk_at "hx") (by assumption) | (refine Chg.l (by assumption) ?_ ?_; (walk_at "hne"); (walk_at "hs")))
local macro_rules | `(tactic| walk_at "ht") => `(tactic| first | assumption | exact SqT.of (by walk_at "hh") | exact Ex.t (by walk_at "hx") (by assumption) | (refine Chg.t (by assumption) ?_ ?_; (walk_at "hne"); (walk_at "ht")))
local macro_rules | `(tactic| walk_at "sz") => `(tactic| first | decide | omega | (simp only [List.length_append, List.length_cons, List.length_nil, List.length_map, List.length_reverse] <;> omega))
local macro_rules | `(tactic| walk_at "cm") => `(tactic| first | exact .inr ⟨by decide, by decide⟩ | exact .inl ⟨by decide, by decide⟩ | exact .inr ⟨by omega, by omega⟩ | exact .inl ⟨by omega, by omega⟩)
local macro_rules | `(tactic| walk_at "do") => `(tactic| first | decide | omega)
local macro_rules | `(tactic| walk_at "ws") => `(tactic| first
  | ((with_reducible refine' w_var ?h ?_); (case h => exact rfl)) | with_reducible refine' w_c ?_ | with_reducible refine' w_op ?_ | with_reducible refine' w_seq ?_ | with_reducible refine' w_asg ?_ | with_reducible refine' w_gName ?_ | ((with_reducible show Ends.nx _ _ _); dsimp only) | with_reducible refine' w_cons ?_ | with_reducible refine' w_nil ?_ | with_reducible refine' w_cb ?_ | with_reducible refine' w_cal ?_
  | with_reducible refine' w_drop ?_ | with_reducible refine' w_ret ?_ | with_reducible refine' w_ifS ?_ | with_reducible refine' w_test ?_ | with_reducible refine' w_bl ?_ | with_reducible refine' w_next ?_
  | with_reducible refine' w_addI ?_ | with_reducible refine' w_subI ?_ | with_reducible refine' w_eqI ?_ | with_reducible refine' w_neI ?_ | with_reducible refine' w_lt ?_ | with_reducible refine' w_le ?_ | with_reducible refine' w_gt ?_ | with_reducible refine' w_ge ?_ | with_reducible refine' w_eqS ?_ | with_reducible refine' w_neS ?_ | with_reducible refine' isN_I ?_ | with_reducible refine' isN_S ?_ | with_reducible refine' isN_B ?_ | with_reducible refine' isN_R ?_ | with_reducible refine' isN_N ?_ | with_reducible refine' isNot_I ?_ | with_reducible refine' isNot_S ?_ | with_reducible refine' isNot_B ?_ | with_reducible refine' isNot_R ?_ | with_reducible refine' isNot_N ?_ | with_reducible refine' w_isN ?_ | with_reducible refine' w_isNotN ?_ | with_reducible refine' w_ord1 ?_
  | ((with_reducible refine' w_modI ?h ?_); (case h => walk_at "do")) | ((with_reducible refine' w_divI ?h ?h2 ?_); (case h => walk_at "do"); (case h2 => walk_at "do")) | ((with_reducible refine' w_mulI ?h ?_); (case h => walk_at "cm")) | with_reducible refine' w_negI ?_ | with_reducible refine' w_un ?_
  | with_reducible refine' w_intI ?_ | with_reducible refine' w_intB ?_ | with_reducible refine' w_abs ?_ | with_reducible refine' w_not ?_ | with_reducible refine' w_and ?_ | with_reducible refine' w_or ?_ | with_reducible refine' w_if ?_ | with_reducible refine' w_notV ?_ | with_reducible refine' w_andV ?_ | with_reducible refine' w_orV ?_ | with_reducible refine' w_chain ?_
  | with_reducible refine' w_tTr ?_ | with_reducible refine' w_trB ?_ | with_reducible refine' w_trI ?_ | with_reducible refine' w_trN ?_ | with_reducible refine' w_tB ?_ | ((with_reducible refine' w_augI ?h ?_); (case h => exact rfl)) | with_reducible refine' w_int ?_
  | with_reducible refine' w_lst ?_ | with_reducible refine' w_tup ?_ | ((with_reducible refine' w_newL ?h ?_); (case h => walk_at "sz")) | ((with_reducible refine' w_newT ?h ?_); (case h => walk_at "sz"))
  | with_reducible refine' w_sl ?_ | with_reducible refine' w_noPart ?_ | with_reducible refine' w_part ?_ | with_reducible refine' w_partI ?_ | with_reducible refine' w_bm0 ?_ | with_reducible refine' w_bm ?_ | with_reducible refine' w_sub ?_ | with_reducible refine' w_gCons ?_ | with_reducible refine' w_gNil ?_
  | ((with_reducible refine' w_ixL ?h ?h2 ?_); (case h => walk_at "hs"); (case h2 => first | exact rfl | exact atI_last)) | ((with_reducible refine' w_ixT ?h ?h2 ?_); (case h => walk_at "ht"); (case h2 => exact rfl))
  | ((with_reducible refine' w_lenL ?h ?_); (case h => walk_at "hs")) | ((with_reducible refine' w_lenT ?h ?_); (case h => walk_at "ht"))
  | ((with_reducible refine' w_tyL ?h ?_); (case h => walk_at "hh")) | with_reducible refine' w_tyS ?_ | ((with_reducible refine' w_append ?h ?h2 ?_); (case h => walk_at "hh"); (case h2 => walk_at "sz"))
  | ((with_reducible show Ends.rt _ _ _); dsimp only) | ((with_reducible show Ends.bk _ _ _); dsimp only) | ((with_reducible show Ends.ct _ _ _); dsimp only) | with_reducible refine' w_break ?_ | with_reducible refine' w_cont ?_ | with_reducible refine' w_retN ?_
  | with_reducible refine' w_for ?_ | with_reducible refine' w_lc ?_ | with_reducible refine' w_iAny ?_ | with_reducible refine' w_iRng1 ?_ | with_reducible refine' w_iRng2 ?_ | with_reducible refine' w_iEnum ?_ | with_reducible refine' w_iZip ?_ | with_reducible refine' w_iRev ?_
  | ((with_reducible refine' w_rng ?h ?h2 ?_); (case h => walk_at "do"); (case h2 => walk_at "do")) | ((with_reducible refine' w_rng2 ?h ?h2 ?h3 ?h4 ?_); (case h => walk_at "do"); (case h2 => walk_at "do"); (case h3 => walk_at "do"); (case h4 => walk_at "do"))
  | ((with_reducible refine' w_itL ?h ?_); (case h => walk_at "hs")) | ((with_reducible refine' w_itT ?h ?_); (case h => walk_at "ht")) | with_reducible refine' w_itS ?_ | ((with_reducible refine' w_itRL ?h ?_); (case h => walk_at "hs")) | ((with_reducible refine' w_itRT ?h ?_); (case h => walk_at "ht"))
  | ((with_reducible refine' w_itEn ?h ?_); (case h => walk_at "hs")) | ((with_reducible refine' w_itZ ?h ?h2 ?_); (case h => walk_at "hs"); (case h2 => walk_at "hs"))
  | ((with_reducible show wipe _ _ = wipe _ _ ∧ _); refine ⟨rfl, ?_⟩) | with_reducible refine' w_yes1 ?_ | with_reducible refine' w_whT ?_
  | with_reducible refine' isI_int ?_ | with_reducible refine' isI_bool ?_ | with_reducible refine' isI_str ?_ | with_reducible refine' isI_tuple ?_ | with_reducible refine' isI_list ?_
  | with_reducible refine' isS_int ?_ | with_reducible refine' isS_bool ?_ | with_reducible refine' isS_str ?_ | with_reducible refine' isS_tuple ?_ | with_reducible refine' isS_list ?_
  | with_reducible refine' isN_int ?_ | with_reducible refine' isN_bool ?_ | with_reducible refine' isN_str ?_ | with_reducible refine' isN_tuple ?_ | with_reducible refine' isN_list ?_
  | with_reducible refine' isB_int ?_ | with_reducible refine' isB_bool ?_ | with_reducible refine' isB_str ?_ | with_reducible refine' isB_tuple ?_ | with_reducible refine' isB_list ?_
  | ((with_reducible refine' isT_int ?h ?_); (case h => walk_at "ht")) | ((with_reducible refine' isT_bool ?h ?_); (case h => walk_at "ht")) | ((with_reducible refine' isT_str ?h ?_); (case h => walk_at "ht")) | ((with_reducible refine' isT_tuple ?h ?_); (case h => walk_at "ht")) | ((with_reducible refine' isT_list ?h ?_); (case h => walk_at "ht"))
  | ((with_reducible refine' isL_int ?h ?_); (case h => walk_at "hs")) | ((with_reducible refine' isL_bool ?h ?_); (case h => walk_at "hs")) | ((with_reducible refine' isL_str ?h ?_); (case h => walk_at "hs")) | ((with_reducible refine' isL_tuple ?h ?_); (case h => walk_at "hs")) | ((with_reducible refine' isL_list ?h ?_); (case h => walk_at "hs"))
  | ((with_reducible refine' w_popC ?h ?_); (case h => walk_at "hh")) | ((with_reducible refine' w_tuple ?h ?_); (case h => walk_at "hs"))
  | with_reducible refine' w_snoc ?_ | with_reducible refine' w_snocN ?_ | with_reducible refine' w_conz ?_ | with_reducible refine' w_conzN ?_ | with_reducible refine' w_nilz ?_ | with_reducible refine' w_nilzN ?_
  | ((with_reducible refine' w_gTup ?h ?h2 ?_); (case h => walk_at "ht"); (case h2 => exact rfl))
  | ((with_reducible refine' w_powI ?h ?_); (case h => exact ⟨by decide, by decide, by decide⟩))
  | ((with_reducible refine' w_setL ?h ?h2 ?_); (case h => walk_at "hh"); (case h2 => exact rfl))
  | with_reducible refine' w_listRev ?_ | ((with_reducible refine' w_lRev ?h ?_); (case h => walk_at "ht"))
  | ((with_reducible refine' w_slL ?h ?_); (case h => walk_at "hs")) | ((with_reducible refine' w_list ?h ?_); (case h => walk_at "hs")) | ((with_reducible refine' w_extend ?h ?h2 ?h3 ?_); (case h => walk_at "hh"); (case h2 => walk_at "hh"); (case h3 => walk_at "sz"))
  | ((with_reducible refine' w_trL ?h ?_); (case h => walk_at "hs")) | ((with_reducible refine' w_trT ?h ?_); (case h => walk_at "ht"))
  | ((with_reducible refine' w_addL ?h ?h2 ?h3 ?_); (case h => walk_at "hh"); (case h2 => walk_at "hh"); (case h3 => walk_at "sz"))
  | ((with_reducible refine' w_eqN ?h ?h2 ?_); (case h => walk_at "hs"); (case h2 => walk_at "hs")) | ((with_reducible refine' w_neN ?h ?h2 ?_); (case h => walk_at "hs"); (case h2 => walk_at "hs"))
  | with_reducible refine' w_nt ?_ | with_reducible refine' w_nf ?_
  | with_reducible refine' iteT ?_ | with_reducible refine' iteF ?_)
local macro_rules | `(tactic| walk_at "wl") => `(tactic| repeat (walk_at "ws"))
def mxL : Nat → Nat
  | 0 => 303
  | D + 1 => 3 + 4 * mxL D
def mxC : Nat → Nat
  | 0 => 9
  | D + 1 => 3 + 4 * mxC D
theorem mxL0 : ∀ D, 303 ≤ mxL D
  | 0 => Nat.le_refl _
  | D + 1 => by
    have := mxL0 D
    show 303 ≤ 3 + 4 * mxL D
    omega
theorem mxC0 : ∀ D, 9 ≤ mxC D
  | 0 => Nat.le_refl _
  | D + 1 => by
    have := mxC0 D
    show 9 ≤ 3 + 4 * mxC D
    omega
def spLDeep (K : PySem.W.Frag) (m : Nat) : Sp := fun vs H Q _ => ∃ (n : Int) (D : Nat), vs = [.int n, .int (D : Int)] ∧ D < m ∧
  ∀ v d H', Ex H H' → Dp K H' v d → good d = true → deep d ≤ D → (packD d).length ≤ mxL D → (packD d).count 4 ≤ mxC D → Q v H'
theorem ld0 {K : PySem.W.Frag} {vs : List V} {H : Hp} {Q : VK} {E : XK} (h : spLDeep K 0 vs H Q E) : False := by
  obtain ⟨_, _, _, h, _⟩ := h
  cases h
theorem deep_plain {d : PyData} (h : isTup d = false) : deep d = 0 := by
  cases d <;> first | rfl | cases h
theorem goods_snoc {ds : List PyData} {d : PyData} (h : goods ds = true) (h2 : good d = true) : goods (ds ++ [d]) = true := by
  rw [goods_app, h, goods_cons, h2]
  unfold goods
  rfl
theorem deeps_app : ∀ ds es : List PyData, deeps (ds ++ es) = max (deeps ds) (deeps es)
  | [], es => by
    show deeps es = max 0 (deeps es)
    omega
  | d :: ds, es => by
    have := deeps_app ds es
    show max (deep d) (deeps (ds ++ es)) = max (max (deep d) (deeps ds)) (deeps es)
    omega
theorem packDs_one (d : PyData) : packDs [d] = packD d := by rw [packDs_cons, packDs_nil, List.append_nil]
def RpD (K : PySem.W.Frag) (D : Nat) (i : Nat) (acc : List V) (H : Hp) : Prop := ∃ ds, DpAll K H acc ds ∧ goods ds = true ∧ ds.length = i ∧ deeps ds ≤ D ∧ (packDs ds).length ≤ i * mxL D ∧ (packDs ds).count 4 ≤ i * mxC D
section
variable {P : Program} {w : World} {K : PySem.W.Frag} {mg : Str → Option Value} {base : Heap} {f : Addr} {fd : FuncData}
theorem ok_law_deep (T : Tx K mg) (F : FunD K "_law_deep" "_law_deep" (defArgs s_law_deep) (defBody s_law_deep) (defScope s_law_deep) [] [] f fd) (hm : mg "_law_deep" = some (.ref f)) (kp : PySem.W.keepIn K (.ref f) = true) (hb : Binds K fd ["number", "depth"] []) (G_law_take : Fn P w K mg base 1 "_law_take" spTake) (G_law_number : Fn P w K mg base 1 "_law_number" (spNumber K)) (G_law_plain : Fn P w K mg base 2 "_law_plain" (spLPlain K)) :
    ∀ m, FnOkR P w K mg base (m + 3) f fd ["number", "depth"] (spLDeep K m)
  | 0 => ⟨fun vs H Q E h => (ld0 h).elim, fun A outer s H args us vs Q E hr he hb hv h => (ld0 h).elim⟩
  | m + 1 => by
    have G_law_deep : Fn P w K mg base (m + 3) "_law_deep" (spLDeep K m) := ⟨f, fd, _, ok_law_deep T F hm kp hb G_law_take G_law_number G_law_plain m, hm, kp, hb⟩
    refine okR F sc_law_deep (fun vs H Q E h => ?_) (fun cdv A outer s H vs Q E hr h => ?_)
    · obtain ⟨n, D, rfl, _⟩ := h
      rfl
    · obtain ⟨n, D, rfl, hD, k⟩ := h
      refine ⟨_, (pss_cons (ps_set (i := 2) sc_law_deep.nd rfl (Or.inl rfl) (pe_lst (pa_cons (pv 0) pa_nil)))
      (pss_cons (ps_if (PW.pt (pw_or (pt_cmpR (opEqK (K := K) hr.units) (pv 1) pe_int (nomark _)) (pw_or1 (pt_cmpR (opEqK (K := K) hr.units) (pe_f G_law_take hr (by omega) rfl (fun σ => px (takes_of rfl rfl rfl rfl) σ) (pa_cons (pv 2) (pa_cons pe_int pa_nil))) pe_int (nomark _))))) (pss_one (ps_ret (pe_f G_law_plain hr (by omega) rfl (fun σ => px (takes_of rfl rfl rfl rfl) σ) (pa_cons (pv 2) pa_nil)))) pss_nil)
      (pss_one (ps_ret (pe_callTy (cTupK (K := K)) (by rfl) T.b_tuple bt_tuple (pa_cons (pe_lc (own := [("k", 3)]) rfl sc_law_deep.nd (pi_range1 rfl T.b_range (pa_cons (pe_f G_law_take hr (by omega) rfl (fun σ => px (takes_of rfl rfl rfl rfl) σ) (pa_cons (pv 2) (pa_cons pe_int pa_nil))) pa_nil)) (blkOk_by (own := [("k", 3)]) (N := ["number", "depth", "box", "k"]) (sc := defScope s_law_deep) (by decide +kernel)) (fun _ _ _ _ _ => (pg_name (i := 3) sc_law_deep.nd rfl (Or.inl rfl))) (fun _ _ _ _ _ => pts_nil) (fun _ _ _ _ _ => (pe_f G_law_deep hr (by omega) rfl (fun σ => px0 σ) (pa_cons (pe_f G_law_number hr (by omega) rfl (fun σ => px0 σ) (pa_cons (pe_lst (pa_cons (pv 0) pa_nil)) (pa_cons (pe_op (opAddK (K := K)) pe_int (pv 3)) pa_nil))) (pa_cons (pe_op opSub (pv 1) pe_int) pa_nil))))) pa_nil)))))), ?_⟩
      walk_at "wl"
      intro b H1 hb1 e1 h1
      have plain : ∀ {QV : VK} {EE : XK} {H2 : Hp}, Bx b H1 H2 → (∀ v d H', Ex H H' → Dp K H' v d → good d = true → deep d ≤ D → (packD d).length ≤ mxL D → (packD d).count 4 ≤ mxC D → QV v H') → spLPlain K [.ref b] H2 QV EE := by
        intro QV EE H2 bx kk
        obtain ⟨y, hy⟩ := bx.at_
        refine ⟨b, y, rfl, hy, ?_⟩
        intro v d H' bx2 hd hg ht hl hc
        have m1 := mxL0 D
        have m2 := mxC0 D
        refine kk v d H' ((bx.trans bx2).ex e1 hb1) hd hg (by rw [deep_plain ht]; exact Nat.zero_le _) ?_ ?_
        · rw [packD_plain ht]; omega
        · rw [packD_plain ht]; omega
      walk_at "wl"
      refine w_dec (fun h0 => ?_) (fun h0 => ?_)
      · walk_at "wl"
        exact plain (Bx.refl h1) k
      · walk_at "wl"
        refine ⟨b, n, 3, rfl, h1, by decide, by decide, ?_⟩
        intro r2 y2 H2 hr2 c2
        walk_at "wl"
        refine w_dec (fun h3 => ?_) (fun h3 => ?_)
        · walk_at "wl"
          exact plain ((Bx.refl h1).chg c2) k
        · obtain ⟨D', rfl⟩ : ∃ D', D = D' + 1 := ⟨D - 1, by omega⟩
          walk_at "wl"
          refine ⟨b, y2, 5, rfl, c2.at_, by decide, by decide, ?_⟩
          intro r3 y3 H3 hr3 c3
          have e3 : Ex H H3 := ((Bx.refl h1).chg c2 |>.chg c3).ex e1 hb1
          walk_at "wl"
          rw [Int.toNat_natCast]
          refine w_lcD walk_range (RpD K D') ?_ (fun _ _ => True.intro) ?_ ?_
          · intro Dl hDl
            exact ⟨[], .nil, by unfold goods; rfl, rfl, Nat.zero_le _, by rw [packDs_nil]; exact Nat.zero_le _, by rw [packDs_nil]; exact Nat.zero_le _⟩
          · rintro Dl i x acc H4 H4' hDl hi e4 h4 ⟨ds, hda, hg, hlen, hdp, hpl, hpc⟩ ⟨rfl, rfl⟩
            have hla := da_len hda
            walk_at "wl"
            intro p5 H5 hp5 e5 h5
            walk_at "wl"
            rw [show (1 + (0 + (i : Int))) = ((1 + i : Nat) : Int) by omega]
            refine ⟨p5, [n], 1 + i, rfl, SqL.of h5, ?_⟩
            intro n6
            walk_at "wl"
            rw [show ((D' + 1 : Nat) : Int) - 1 = (D' : Int) by omega]
            refine ⟨n6, D', rfl, by omega, ?_⟩
            intro v d H6 e6 hd6 hg6 hdp6 hpl6 hpc6
            have h6 : H6 Dl = some (.lst acc) := e6.use (e5.use h4)
            refine lcD hDl ((e4.trans e5).trans e6) h6 (by omega) ?_
            have gs := goods_snoc hg hg6
            refine ⟨ds ++ [d], ?_, gs, by rw [List.length_append, hlen]; rfl, ?_, ?_, ?_⟩
            · exact dp_updAll h6 (goods_nolist _ gs) (da_app (dp_exAll (e5.trans e6) hda) (da_one hd6))
            · rw [deeps_app]
              show max (deeps ds) (max (deep d) 0) ≤ D'
              omega
            · rw [packDs_app, packDs_one, List.length_append, Nat.succ_mul]
              omega
            · rw [packDs_app, packDs_one, List.count_append, Nat.succ_mul]
              omega
          · rintro p acc H4 hp4 e4 h4 ⟨ds, hda, hg, hlen, hdp, hpl, hpc⟩
            have hla := da_len hda
            walk_at "wl"
            intro p5 H5 hp5 e5 h5
            walk_at "wl"
            have m1 : r3 * mxL D' ≤ 4 * mxL D' := Nat.mul_le_mul_right _ (by omega)
            have m2 : r3 * mxC D' ≤ 4 * mxC D' := Nat.mul_le_mul_right _ (by omega)
            refine k _ (.tuple ds) H5 ((e3.trans e4).trans e5) (.tup (SqT.of h5) (dp_exAll e5 hda)) ?_ ?_ ?_ ?_
            · rw [good_tup, hg, Bool.and_true]
              exact decide_eq_true (by omega)
            · show deeps ds + 1 ≤ D' + 1
              omega
            · rw [packD_tup, List.length_cons, List.length_append, lowN_len]
              show _ ≤ 3 + 4 * mxL D'
              omega
            · rw [packD_tup, List.count_cons, List.count_append]
              have := List.count_le_length (a := 4) (l := lowN ds.length 2)
              rw [lowN_len] at this
              show _ ≤ 3 + 4 * mxC D'
              simp only [beq_self_eq_true, if_true]
              omega
end
end K47

namespace K47
open PySem PySem.Spec PyProof.Rows L2 Hf
local macro_rules | `(tactic| walk_at "hh") => `(tactic| first | assumption | exact Chg.at_ (by assumption) | (refine Ex.use (by assumption) ?_; walk_at "hh") | (refine Chg.use (by assumption) ?_ ?_; (walk_at "hne"); (walk_at "hh")))
local macro_rules | `(tactic| walk_at "hne") => `(tactic| first | assumption | exact Ne.symm (by assumption) | exact ne_fresh (by assumption) (by walk_at "hh") | exact (ne_fresh (by assumption) (by walk_at "hh")).symm)
local macro_rules | `(tactic| walk_at "hn") => `(tactic| first | assumption | exact Ex.fresh (by assumption) (by walk_at "hn") | exact Chg.fresh (by assumption) (by walk_at "hn"))
local macro_rules | `(tactic| walk_at "hx") => `(tactic| first | assumption | exact Ex.refl _ | (refine Ex.trans ?_ (by assumption); walk_at "hx") | (refine Chg.ex ?_ (by assumption) ?_; (walk_at "hx"); (walk_at "hn")))
local macro_rules | `(tactic| walk_at "hs") => `(tactic| first | assumption | exact SqL.of (by walk_at "hh") | exact Ex.l (by walk_at "hx") (by assumption) | (refine Chg.l (by assumption) ?_ ?_; (walk_at "hne"); (walk_at "hs")))
local macro_rules | `(tactic| walk_at "ht") => `(tactic| first | assumption | exact SqT.of (by walk_at "hh") | exact Ex.t (by walk_at "hx") (by assumption) | (refine Chg.t (by assumption) ?_ ?_; (walk_at "hne"); (walk_at "ht")))
local macro_rules | `(tactic| walk_at "sz") => `(tactic| first | decide | omega | (simp only [List.length_append, List.length_cons, List.length_nil, List.length_map, List.length_reverse] <;> omega))
local macro_rules | `(tactic| walk_at "cm") => `(tactic| first | exact .inr ⟨by decide, by decide⟩ | exact .inl ⟨by decide, by decide⟩ | exact .inr ⟨by omega, by omega⟩ | exact .inl ⟨by omega, by omega⟩)
local macro_rules | `(tactic| walk_at "do") => `(tactic| first | decide | omega)
local macro_rules | `(tactic| walk_at "ws") => `(tactic| first
  | ((with_reducible refine' w_var ?h ?_); (case h => exact rfl)) | with_reducible refine' w_c ?_ | with_reducible refine' w_op ?_ | with_reducible refine' w_seq ?_ | with_reducible refine' w_asg ?_ | with_reducible refine' w_gName ?_ | ((with_reducible show Ends.nx _ _ _); dsimp only) | with_reducible refine' w_cons ?_ | with_reducible refine' w_nil ?_ | with_reducible refine' w_cb ?_ | with_reducible refine' w_cal ?_
  | with_reducible refine' w_drop ?_ | with_reducible refine' w_ret ?_ | with_reducible refine' w_ifS ?_ | with_reducible refine' w_test ?_ | with_reducible refine' w_bl ?_ | with_reducible refine' w_next ?_
  | with_reducible refine' w_addI ?_ | with_reducible refine' w_subI ?_ | with_reducible refine' w_eqI ?_ | with_reducible refine' w_neI ?_ | with_reducible refine' w_lt ?_ | with_reducible refine' w_le ?_ | with_reducible refine' w_gt ?_ | with_reducible refine' w_ge ?_ | with_reducible refine' w_eqS ?_ | with_reducible refine' w_neS ?_ | with_reducible refine' isN_I ?_ | with_reducible refine' isN_S ?_ | with_reducible refine' isN_B ?_ | with_reducible refine' isN_R ?_ | with_reducible refine' isN_N ?_ | with_reducible refine' isNot_I ?_ | with_reducible refine' isNot_S ?_ | with_reducible refine' isNot_B ?_ | with_reducible refine' isNot_R ?_ | with_reducible refine' isNot_N ?_ | with_reducible refine' w_isN ?_ | with_reducible refine' w_isNotN ?_ | with_reducible refine' w_ord1 ?_
  | ((with_reducible refine' w_modI ?h ?_); (case h => walk_at "do")) | ((with_reducible refine' w_divI ?h ?h2 ?_); (case h => walk_at "do"); (case h2 => walk_at "do")) | ((with_reducible refine' w_mulI ?h ?_); (case h => walk_at "cm")) | with_reducible refine' w_negI ?_ | with_reducible refine' w_un ?_
  | with_reducible refine' w_intI ?_ | with_reducible refine' w_intB ?_ | with_reducible refine' w_abs ?_ | with_reducible refine' w_not ?_ | with_reducible refine' w_and ?_ | with_reducible refine' w_or ?_ | with_reducible refine' w_if ?_ | with_reducible refine' w_notV ?_ | with_reducible refine' w_andV ?_ | with_reducible refine' w_orV ?_ | with_reducible refine' w_chain ?_
  | with_reducible refine' w_tTr ?_ | with_reducible refine' w_trB ?_ | with_reducible refine' w_trI ?_ | with_reducible refine' w_trN ?_ | with_reducible refine' w_tB ?_ | ((with_reducible refine' w_augI ?h ?_); (case h => exact rfl)) | with_reducible refine' w_int ?_
  | with_reducible refine' w_lst ?_ | with_reducible refine' w_tup ?_ | ((with_reducible refine' w_newL ?h ?_); (case h => walk_at "sz")) | ((with_reducible refine' w_newT ?h ?_); (case h => walk_at "sz"))
  | with_reducible refine' w_sl ?_ | with_reducible refine' w_noPart ?_ | with_reducible refine' w_part ?_ | with_reducible refine' w_partI ?_ | with_reducible refine' w_bm0 ?_ | with_reducible refine' w_bm ?_ | with_reducible refine' w_sub ?_ | with_reducible refine' w_gCons ?_ | with_reducible refine' w_gNil ?_
  | ((with_reducible refine' w_ixL ?h ?h2 ?_); (case h => walk_at "hs"); (case h2 => first | exact rfl | exact atI_last)) | ((with_reducible refine' w_ixT ?h ?h2 ?_); (case h => walk_at "ht"); (case h2 => exact rfl))
  | ((with_reducible refine' w_lenL ?h ?_); (case h => walk_at "hs")) | ((with_reducible refine' w_lenT ?h ?_); (case h => walk_at "ht"))
  | ((with_reducible refine' w_tyL ?h ?_); (case h => walk_at "hh")) | with_reducible refine' w_tyS ?_ | ((with_reducible refine' w_append ?h ?h2 ?_); (case h => walk_at "hh"); (case h2 => walk_at "sz"))
  | ((with_reducible show Ends.rt _ _ _); dsimp only) | ((with_reducible show Ends.bk _ _ _); dsimp only) | ((with_reducible show Ends.ct _ _ _); dsimp only) | with_reducible refine' w_break ?_ | with_reducible refine' w_cont ?_ | with_reducible refine' w_retN ?_
  | with_reducible refine' w_for ?_ | with_reducible refine' w_lc ?_ | with_reducible refine' w_iAny ?_ | with_reducible refine' w_iRng1 ?_ | with_reducible refine' w_iRng2 ?_ | with_reducible refine' w_iEnum ?_ | with_reducible refine' w_iZip ?_ | with_reducible refine' w_iRev ?_
  | ((with_reducible refine' w_rng ?h ?h2 ?_); (case h => walk_at "do"); (case h2 => walk_at "do")) | ((with_reducible refine' w_rng2 ?h ?h2 ?h3 ?h4 ?_); (case h => walk_at "do"); (case h2 => walk_at "do"); (case h3 => walk_at "do"); (case h4 => walk_at "do"))
  | ((with_reducible refine' w_itL ?h ?_); (case h => walk_at "hs")) | ((with_reducible refine' w_itT ?h ?_); (case h => walk_at "ht")) | with_reducible refine' w_itS ?_ | ((with_reducible refine' w_itRL ?h ?_); (case h => walk_at "hs")) | ((with_reducible refine' w_itRT ?h ?_); (case h => walk_at "ht"))
  | ((with_reducible refine' w_itEn ?h ?_); (case h => walk_at "hs")) | ((with_reducible refine' w_itZ ?h ?h2 ?_); (case h => walk_at "hs"); (case h2 => walk_at "hs"))
  | ((with_reducible show wipe _ _ = wipe _ _ ∧ _); refine ⟨rfl, ?_⟩) | with_reducible refine' w_yes1 ?_ | with_reducible refine' w_whT ?_
  | with_reducible refine' isI_int ?_ | with_reducible refine' isI_bool ?_ | with_reducible refine' isI_str ?_ | with_reducible refine' isI_tuple ?_ | with_reducible refine' isI_list ?_
  | with_reducible refine' isS_int ?_ | with_reducible refine' isS_bool ?_ | with_reducible refine' isS_str ?_ | with_reducible refine' isS_tuple ?_ | with_reducible refine' isS_list ?_
  | with_reducible refine' isN_int ?_ | with_reducible refine' isN_bool ?_ | with_reducible refine' isN_str ?_ | with_reducible refine' isN_tuple ?_ | with_reducible refine' isN_list ?_
  | with_reducible refine' isB_int ?_ | with_reducible refine' isB_bool ?_ | with_reducible refine' isB_str ?_ | with_reducible refine' isB_tuple ?_ | with_reducible refine' isB_list ?_
  | ((with_reducible refine' isT_int ?h ?_); (case h => walk_at "ht")) | ((with_reducible refine' isT_bool ?h ?_); (case h => walk_at "ht")) | ((with_reducible refine' isT_str ?h ?_); (case h => walk_at "ht")) | ((with_reducible refine' isT_tuple ?h ?_); (case h => walk_at "ht")) | ((with_reducible refine' isT_list ?h ?_); (case h => walk_at "ht"))
  | ((with_reducible refine' isL_int ?h ?_); (case h => walk_at "hs")) | ((with_reducible refine' isL_bool ?h ?_); (case h => walk_at "hs")) | ((with_reducible refine' isL_str ?h ?_); (case h => walk_at "hs")) | ((with_reducible refine' isL_tuple ?h ?_); (case h => walk_at "hs")) | ((with_reducible refine' isL_list ?h ?_); (case h => walk_at "hs"))
  | ((with_reducible refine' w_popC ?h ?_); (case h => walk_at "hh")) | ((with_reducible refine' w_tuple ?h ?_); (case h => walk_at "hs"))
  | with_reducible refine' w_snoc ?_ | with_reducible refine' w_snocN ?_ | with_reducible refine' w_conz ?_ | with_reducible refine' w_conzN ?_ | with_reducible refine' w_nilz ?_ | with_reducible refine' w_nilzN ?_
  | ((with_reducible refine' w_gTup ?h ?h2 ?_); (case h => walk_at "ht"); (case h2 => exact rfl))
  | ((with_reducible refine' w_powI ?h ?_); (case h => exact ⟨by decide, by decide, by decide⟩))
  | ((with_reducible refine' w_setL ?h ?h2 ?_); (case h => walk_at "hh"); (case h2 => exact rfl))
  | with_reducible refine' w_listRev ?_ | ((with_reducible refine' w_lRev ?h ?_); (case h => walk_at "ht"))
  | ((with_reducible refine' w_slL ?h ?_); (case h => walk_at "hs")) | ((with_reducible refine' w_list ?h ?_); (case h => walk_at "hs")) | ((with_reducible refine' w_extend ?h ?h2 ?h3 ?_); (case h => walk_at "hh"); (case h2 => walk_at "hh"); (case h3 => walk_at "sz"))
  | ((with_reducible refine' w_trL ?h ?_); (case h => walk_at "hs")) | ((with_reducible refine' w_trT ?h ?_); (case h => walk_at "ht"))
  | ((with_reducible refine' w_addL ?h ?h2 ?h3 ?_); (case h => walk_at "hh"); (case h2 => walk_at "hh"); (case h3 => walk_at "sz"))
  | ((with_reducible refine' w_eqN ?h ?h2 ?_); (case h => walk_at "hs"); (case h2 => walk_at "hs")) | ((with_reducible refine' w_neN ?h ?h2 ?_); (case h => walk_at "hs"); (case h2 => walk_at "hs"))
  | with_reducible refine' w_nt ?_ | with_reducible refine' w_nf ?_
  | with_reducible refine' iteT ?_ | with_reducible refine' iteF ?_)
local macro_rules | `(tactic| walk_at "wl") => `(tactic| repeat (walk_at "ws"))
/-- what another list of octets must be -/
structure Oth (xs ys : List Nat) : Prop where
  len : ys.length ≤ xs.length + 1
  oct : ∀ y ∈ ys, y < 256
  cnt : ys.count 4 ≤ xs.count 4 + 1
theorem oth_of {xs zs : List Nat} {r m : Nat} (ho : ∀ x ∈ xs, x < 256) (hz : ∀ z ∈ zs, z < 256) (hl : zs.length ≤ 1) (hm : r ≤ m) : Oth xs (xs.take r ++ zs ++ xs.drop m) := by
  have hs : (xs.drop m).Sublist (xs.drop r) := by
    obtain ⟨k, rfl⟩ : ∃ k, m = r + k := ⟨m - r, by omega⟩
    rw [← List.drop_drop]
    exact List.drop_sublist _ _
  refine ⟨?_, ?_, ?_⟩
  · simp only [List.length_append, List.length_take, List.length_drop]
    omega
  · intro y hy
    rcases List.mem_append.mp hy with hy | hy
    · rcases List.mem_append.mp hy with hy | hy
      · exact ho y (List.mem_of_mem_take hy)
      · exact hz y hy
    · exact ho y (List.mem_of_mem_drop hy)
  · have h1 : xs.count 4 = (xs.take r).count 4 + (xs.drop r).count 4 := by rw [← List.count_append, List.take_append_drop]
    have h2 := hs.count_le (a := 4)
    have h3 := List.count_le_length (a := 4) (l := zs)
    rw [List.count_append, List.count_append]
    omega
def spLOther (K : PySem.W.Frag) : Sp := fun vs H Q _ => ∃ (a : Addr) (xs : List Nat) (b : Addr) (x : Int), vs = [.ref a, .ref b] ∧ H a = some (.lst (vN xs)) ∧ a ≠ b ∧ H b = some (.lst [.int x]) ∧ xs ≠ [] ∧ xs.length ≤ 50000 ∧ (∀ x ∈ xs, x < 256) ∧
  ∀ ys p H', Bx b H H' → H p = none → H' p = some (.lst (vN ys)) → Oth xs ys → Q (.ref p) H'
theorem pickO {z w : Nat} (hz : z < 256) (hw : w < 256) : ∀ r : Nat, r < 4 → ∃ y : Nat, y < 256 ∧ atI [V.int (z : Int), V.int (w : Int), V.int 0, V.int 4] (r : Int) = some (.int (y : Int))
  | 0, _ => ⟨z, hz, rfl⟩
  | 1, _ => ⟨w, hw, rfl⟩
  | 2, _ => ⟨0, by decide, rfl⟩
  | 3, _ => ⟨4, by decide, rfl⟩
section
variable {P : Program} {w : World} {K : PySem.W.Frag} {mg : Str → Option Value} {base : Heap} {f : Addr} {fd : FuncData}
theorem ok_law_other (T : Tx K mg) (F : FunD K "_law_other" "_law_other" (defArgs s_law_other) (defBody s_law_other) (defScope s_law_other) [] [] f fd) (G_law_take : Fn P w K mg base 1 "_law_take" spTake) : FnOkR P w K mg base 2 f fd ["octets", "box"] (spLOther K) := by
  refine okR F sc_law_other (fun vs H Q E h => ?_) (fun cdv A outer s H vs Q E hr h => ?_)
  · obtain ⟨a, xs, b, x, rfl, _⟩ := h
    rfl
  · obtain ⟨a, xs, b, x, rfl, ha, nab, hb, hne, hsz, ho, k⟩ := h
    have hpos : 0 < xs.length := List.length_pos_iff.mpr hne
    refine ⟨_, (pss_cons (ps_set (i := 2) sc_law_other.nd rfl (Or.inl rfl) (pe_f G_law_take hr (by omega) rfl (fun σ => px (takes_of rfl rfl rfl rfl) σ) (pa_cons (pv 1) (pa_cons pe_int pa_nil))))
      (pss_cons (ps_set (i := 3) sc_law_other.nd rfl (Or.inl rfl) (pe_f G_law_take hr (by omega) rfl (fun σ => px (takes_of rfl rfl rfl rfl) σ) (pa_cons (pv 1) (pa_cons (pe_callB (cLenK (K := K)) (by rfl) T.b_len PySem.boot_len (pa_cons (pv 0) pa_nil)) pa_nil))))
      (pss_cons (ps_if (pt_cmpR (opEqK (K := K) hr.units) (pv 2) pe_int (nomark _)) (pss_one (ps_ret (pe_op (opAddK (K := K)) (pe_slice (slK (K := K)) (pv 0) po_none (po_some (pv 3))) (pe_slice (slK (K := K)) (pv 0) (po_some (pe_op (opAddK (K := K)) (pv 3) pe_int)) po_none)))) pss_nil)
      (pss_cons (ps_if (pt_cmpR (opEqK (K := K) hr.units) (pv 2) pe_int (nomark _)) (pss_one (ps_ret (pe_op (opAddK (K := K)) (pe_op (opAddK (K := K)) (pe_slice (slK (K := K)) (pv 0) po_none (po_some (pv 3))) (pe_lst (pa_cons (pe_f G_law_take hr (by omega) rfl (fun σ => px (takes_of rfl rfl rfl rfl) σ) (pa_cons (pv 1) (pa_cons pe_int pa_nil))) pa_nil))) (pe_slice (slK (K := K)) (pv 0) (po_some (pv 3)) po_none)))) pss_nil)
      (pss_one (ps_ret (pe_op (opAddK (K := K)) (pe_op (opAddK (K := K)) (pe_slice (slK (K := K)) (pv 0) po_none (po_some (pv 3))) (pe_lst (pa_cons (pe_ix (ixK (K := K)) (pe_lst (pa_cons (pe_f G_law_take hr (by omega) rfl (fun σ => px (takes_of rfl rfl rfl rfl) σ) (pa_cons (pv 1) (pa_cons pe_int pa_nil))) (pa_cons (pe_op opMod (pe_callTy cInt (by rfl) T.b_int bt_int (pa_cons (pe_op (opAddK (K := K)) (pe_ix (ixK (K := K)) (pv 0) (pv 3) (fun _ _ => rfl)) pe_int) pa_nil)) pe_int) (pa_cons pe_int (pa_cons pe_int pa_nil))))) (pe_f G_law_take hr (by omega) rfl (fun σ => px (takes_of rfl rfl rfl rfl) σ) (pa_cons (pv 1) (pa_cons pe_int pa_nil))) (fun _ _ => rfl)) pa_nil))) (pe_slice (slK (K := K)) (pv 0) (po_some (pe_op (opAddK (K := K)) (pv 3) pe_int)) po_none)))))))), ?_⟩
    walk_at "wl"
    refine ⟨b, x, 4, rfl, hb, by decide, by decide, ?_⟩
    intro r1 y1 H1 hr1 c1
    have a1 := c1.use nab ha
    walk_at "wl"
    have h62 : xs.length ≤ 2 ^ 62 := Nat.le_trans hsz (by decide)
    refine ⟨b, y1, xs.length, by rw [vN_len], c1.at_, hpos, h62, ?_⟩
    intro r y2 H2 hr2 c2
    have a2 := c2.use nab a1
    have bx2 : Bx b H H2 := ((Bx.refl hb).chg c1).chg c2
    have er : (r : Int) + 1 = ((r + 1 : Nat) : Int) := rfl
    walk_at "wl"
    refine w_dec (fun h0 => ?_) (fun h0 => ?_)
    · walk_at "wl"
      intro p3 H3 hp3 e3 h3
      rw [cutV_to, vN_take] at h3
      have a3 := e3.use a2
      walk_at "wl"
      intro p4 H4 hp4 e4 h4
      rw [er, cutV_from, vN_drop] at h4
      have h34 := e4.use h3
      walk_at "wl"
      refine w_addL h34 h4 (by rw [vN_len, vN_len, List.length_take, List.length_drop]; omega) ?_
      intro p5 H5 hp5 e5 h5
      rw [← vN_app] at h5
      walk_at "wl"
      refine k _ p5 H5 (bx2.ext ((e3.trans e4).trans e5)) ?_ h5 ?_
      · have f2 : H2 p5 = none := (e3.trans e4).fresh hp5
        cases hq : H p5 with
        | none => rfl
        | some o =>
          by_cases eb : p5 = b
          · subst eb; rw [c2.at_] at f2; cases f2
          · rw [bx2.ke p5 o eb hq] at f2; cases f2
      · have := oth_of (xs := xs) (zs := []) (r := r) (m := r + 1) ho (fun z hz => nomatch hz) (by decide) (by omega)
        rw [List.append_nil] at this
        exact this
    · walk_at "wl"
      refine w_dec (fun h1 => ?_) (fun h1 => ?_)
      · walk_at "wl"
        intro p3 H3 hp3 e3 h3
        rw [cutV_to, vN_take] at h3
        walk_at "wl"
        refine ⟨b, y2, 6, rfl, e3.use c2.at_, by decide, by decide, ?_⟩
        intro z y4 H4 hz c4
        have n3 : p3 ≠ b := (ne_fresh hp3 c2.at_).symm
        have h34 := c4.use n3 h3
        have a4 := c4.use nab (e3.use a2)
        have bx4 := (bx2.ext e3).chg c4
        walk_at "wl"
        intro p5 H5 hp5 e5 h5
        walk_at "wl"
        refine w_addL (e5.use h34) h5 (by rw [vN_len, List.length_take]; simp only [List.length_cons, List.length_nil]; omega) ?_
        intro p6 H6 hp6 e6 h6
        have a6 := e6.use (e5.use a4)
        walk_at "wl"
        intro p7 H7 hp7 e7 h7
        rw [cutV_from, vN_drop] at h7
        walk_at "wl"
        refine w_addL (e7.use h6) h7 (by simp only [List.length_append, vN_len, List.length_take, List.length_drop, List.length_cons, List.length_nil]; omega) ?_
        intro p8 H8 hp8 e8 h8
        rw [vN_one z, ← vN_app, ← vN_app] at h8
        walk_at "wl"
        refine k _ p8 H8 (bx4.ext (((e5.trans e6).trans e7).trans e8)) ?_ h8 (oth_of ho (fun q hq => by have := List.mem_singleton.mp hq; omega) (Nat.le_refl 1) (Nat.le_refl _))
        have f2 : H4 p8 = none := ((e5.trans e6).trans e7).fresh hp8
        cases hq : H p8 with
        | none => rfl
        | some o =>
          by_cases eb : p8 = b
          · subst eb; rw [c4.at_] at f2; cases f2
          · rw [bx4.ke p8 o eb hq] at f2; cases f2
      · walk_at "wl"
        intro p3 H3 hp3 e3 h3
        rw [cutV_to, vN_take] at h3
        have a3 := e3.use a2
        walk_at "wl"
        refine ⟨b, y2, 256, rfl, e3.use c2.at_, by decide, by decide, ?_⟩
        intro z y4 H4 hz c4
        have n3 : p3 ≠ b := (ne_fresh hp3 c2.at_).symm
        have h34 := c4.use n3 h3
        have a4 := c4.use nab a3
        have bx4 := (bx2.ext e3).chg c4
        have hxr : xs[r]? = some xs[r] := List.getElem?_eq_getElem hr2
        walk_at "wl"
        refine w_ixN (SqL.of a4) rfl hxr ?_
        walk_at "wl"
        intro p5 H5 hp5 e5 h5
        have ew : ((xs[r] : Nat) : Int) + 1 = ((xs[r] + 1 : Nat) : Int) := rfl
        have ew2 : (((xs[r] + 1 : Nat) : Int)) % 256 = (((xs[r] + 1) % 256 : Nat) : Int) := rfl
        rw [ew, ew2] at h5
        walk_at "wl"
        refine ⟨b, y4, 4, rfl, e5.use c4.at_, by decide, by decide, ?_⟩
        intro r6 y6 H6 hr6 c6
        obtain ⟨u, hu, hat⟩ := pickO hz (w := (xs[r] + 1) % 256) (Nat.mod_lt _ (by decide)) r6 hr6
        have n5 : p5 ≠ b := (ne_fresh hp5 c4.at_).symm
        refine w_ixL (SqL.of (c6.use n5 h5)) hat ?_
        have h36 := c6.use n3 (e5.use h34)
        have a6 := c6.use nab (e5.use a4)
        have bx6 := (bx4.ext e5).chg c6
        walk_at "wl"
        intro p7 H7 hp7 e7 h7
        walk_at "wl"
        refine w_addL (e7.use h36) h7 (by rw [vN_len, List.length_take]; simp only [List.length_cons, List.length_nil]; omega) ?_
        intro p8 H8 hp8 e8 h8
        have a8 := e8.use (e7.use a6)
        walk_at "wl"
        intro p9 H9 hp9 e9 h9
        rw [er, cutV_from, vN_drop] at h9
        walk_at "wl"
        refine w_addL (e9.use h8) h9 (by simp only [List.length_append, vN_len, List.length_take, List.length_drop, List.length_cons, List.length_nil]; omega) ?_
        intro p10 H10 hp10 e10 h10
        rw [vN_one u, ← vN_app, ← vN_app] at h10
        walk_at "wl"
        refine k _ p10 H10 (bx6.ext (((e7.trans e8).trans e9).trans e10)) ?_ h10 (oth_of ho (fun q hq => by have := List.mem_singleton.mp hq; omega) (Nat.le_refl 1) (by omega))
        have f2 : H6 p10 = none := ((e7.trans e8).trans e9).fresh hp10
        cases hq : H p10 with
        | none => rfl
        | some o =>
          by_cases eb : p10 = b
          · subst eb; rw [c6.at_] at f2; cases f2
          · rw [bx6.ke p10 o eb hq] at f2; cases f2
end
end K47

namespace K47
open PySem PySem.Spec PyProof.Rows L2 Hf
local macro_rules | `(tactic| walk_at "hh") => `(tactic| first | assumption | exact Chg.at_ (by assumption) | (refine Ex.use (by assumption) ?_; walk_at "hh") | (refine Chg.use (by assumption) ?_ ?_; (walk_at "hne"); (walk_at "hh")))
local macro_rules | `(tactic| walk_at "hne") => `(tactic| first | assumption | exact Ne.symm (by assumption) | exact ne_fresh (by assumption) (by walk_at "hh") | exact (ne_fresh (by assumption) (by walk_at "hh")).symm)
local macro_rules | `(tactic| walk_at "hn") => `(tactic| first | assumption | exact Ex.fresh (by assumption) (by walk_at "hn") | exact Chg.fresh (by assumption) (by walk_at "hn"))
local macro_rules | `(tactic| walk_at "hx") => `(tactic| first | assumption | exact Ex.refl _ | (refine Ex.trans ?_ (by assumption); walk_at "hx") | (refine Chg.ex ?_ (by assumption) ?_; (walk_at "hx"); (walk_at "hn")))
local macro_rules | `(tactic| walk_at "hs") => `(tactic| first | assumption | exact SqL.of (by walk_at "hh") | exact Ex.l (by walk_at "hx") (by assumption) | (refine Chg.l (by assumption) ?_ ?_; (walk_at "hne"); (walk_at "hs")))
local macro_rules | `(tactic| walk_at "ht") => `(tactic| first | assumption | exact SqT.of (by walk_at "hh") | exact Ex.t (by walk_at "hx") (by assumption) | (refine Chg.t (by assumption) ?_ ?_; (walk_at "hne"); (walk_at "ht")))
local macro_rules | `(tactic| walk_at "sz") => `(tactic| first | decide | omega | (simp only [List.length_append, List.length_cons, List.length_nil, List.length_map, List.length_reverse] <;> omega))
local macro_rules | `(tactic| walk_at "cm") => `(tactic| first | exact .inr ⟨by decide, by decide⟩ | exact .inl ⟨by decide, by decide⟩ | exact .inr ⟨by omega, by omega⟩ | exact .inl ⟨by omega, by omega⟩)
local macro_rules | `(tactic| walk_at "do") => `(tactic| first | decide | omega)
local macro_rules | `(tactic| walk_at "ws") => `(tactic| first
  | ((with_reducible refine' w_var ?h ?_); (case h => exact rfl)) | with_reducible refine' w_c ?_ | with_reducible refine' w_op ?_ | with_reducible refine' w_seq ?_ | with_reducible refine' w_asg ?_ | with_reducible refine' w_gName ?_ | ((with_reducible show Ends.nx _ _ _); dsimp only) | with_reducible refine' w_cons ?_ | with_reducible refine' w_nil ?_ | with_reducible refine' w_cb ?_ | with_reducible refine' w_cal ?_
  | with_reducible refine' w_drop ?_ | with_reducible refine' w_ret ?_ | with_reducible refine' w_ifS ?_ | with_reducible refine' w_test ?_ | with_reducible refine' w_bl ?_ | with_reducible refine' w_next ?_
  | with_reducible refine' w_addI ?_ | with_reducible refine' w_subI ?_ | with_reducible refine' w_eqI ?_ | with_reducible refine' w_neI ?_ | with_reducible refine' w_lt ?_ | with_reducible refine' w_le ?_ | with_reducible refine' w_gt ?_ | with_reducible refine' w_ge ?_ | with_reducible refine' w_eqS ?_ | with_reducible refine' w_neS ?_ | with_reducible refine' isN_I ?_ | with_reducible refine' isN_S ?_ | with_reducible refine' isN_B ?_ | with_reducible refine' isN_R ?_ | with_reducible refine' isN_N ?_ | with_reducible refine' isNot_I ?_ | with_reducible refine' isNot_S ?_ | with_reducible refine' isNot_B ?_ | with_reducible refine' isNot_R ?_ | with_reducible refine' isNot_N ?_ | with_reducible refine' w_isN ?_ | with_reducible refine' w_isNotN ?_ | with_reducible refine' w_ord1 ?_
  | ((with_reducible refine' w_modI ?h ?_); (case h => walk_at "do")) | ((with_reducible refine' w_divI ?h ?h2 ?_); (case h => walk_at "do"); (case h2 => walk_at "do")) | ((with_reducible refine' w_mulI ?h ?_); (case h => walk_at "cm")) | with_reducible refine' w_negI ?_ | with_reducible refine' w_un ?_
  | with_reducible refine' w_intI ?_ | with_reducible refine' w_intB ?_ | with_reducible refine' w_abs ?_ | with_reducible refine' w_not ?_ | with_reducible refine' w_and ?_ | with_reducible refine' w_or ?_ | with_reducible refine' w_if ?_ | with_reducible refine' w_notV ?_ | with_reducible refine' w_andV ?_ | with_reducible refine' w_orV ?_ | with_reducible refine' w_chain ?_
  | with_reducible refine' w_tTr ?_ | with_reducible refine' w_trB ?_ | with_reducible refine' w_trI ?_ | with_reducible refine' w_trN ?_ | with_reducible refine' w_tB ?_ | ((with_reducible refine' w_augI ?h ?_); (case h => exact rfl)) | with_reducible refine' w_int ?_
  | with_reducible refine' w_lst ?_ | with_reducible refine' w_tup ?_ | ((with_reducible refine' w_newL ?h ?_); (case h => walk_at "sz")) | ((with_reducible refine' w_newT ?h ?_); (case h => walk_at "sz"))
  | with_reducible refine' w_sl ?_ | with_reducible refine' w_noPart ?_ | with_reducible refine' w_part ?_ | with_reducible refine' w_partI ?_ | with_reducible refine' w_bm0 ?_ | with_reducible refine' w_bm ?_ | with_reducible refine' w_sub ?_ | with_reducible refine' w_gCons ?_ | with_reducible refine' w_gNil ?_
  | ((with_reducible refine' w_ixL ?h ?h2 ?_); (case h => walk_at "hs"); (case h2 => first | exact rfl | exact atI_last)) | ((with_reducible refine' w_ixT ?h ?h2 ?_); (case h => walk_at "ht"); (case h2 => exact rfl))
  | ((with_reducible refine' w_lenL ?h ?_); (case h => walk_at "hs")) | ((with_reducible refine' w_lenT ?h ?_); (case h => walk_at "ht"))
  | ((with_reducible refine' w_tyL ?h ?_); (case h => walk_at "hh")) | with_reducible refine' w_tyS ?_ | ((with_reducible refine' w_append ?h ?h2 ?_); (case h => walk_at "hh"); (case h2 => walk_at "sz"))
  | ((with_reducible show Ends.rt _ _ _); dsimp only) | ((with_reducible show Ends.bk _ _ _); dsimp only) | ((with_reducible show Ends.ct _ _ _); dsimp only) | with_reducible refine' w_break ?_ | with_reducible refine' w_cont ?_ | with_reducible refine' w_retN ?_
  | with_reducible refine' w_for ?_ | with_reducible refine' w_lc ?_ | with_reducible refine' w_iAny ?_ | with_reducible refine' w_iRng1 ?_ | with_reducible refine' w_iRng2 ?_ | with_reducible refine' w_iEnum ?_ | with_reducible refine' w_iZip ?_ | with_reducible refine' w_iRev ?_
  | ((with_reducible refine' w_rng ?h ?h2 ?_); (case h => walk_at "do"); (case h2 => walk_at "do")) | ((with_reducible refine' w_rng2 ?h ?h2 ?h3 ?h4 ?_); (case h => walk_at "do"); (case h2 => walk_at "do"); (case h3 => walk_at "do"); (case h4 => walk_at "do"))
  | ((with_reducible refine' w_itL ?h ?_); (case h => walk_at "hs")) | ((with_reducible refine' w_itT ?h ?_); (case h => walk_at "ht")) | with_reducible refine' w_itS ?_ | ((with_reducible refine' w_itRL ?h ?_); (case h => walk_at "hs")) | ((with_reducible refine' w_itRT ?h ?_); (case h => walk_at "ht"))
  | ((with_reducible refine' w_itEn ?h ?_); (case h => walk_at "hs")) | ((with_reducible refine' w_itZ ?h ?h2 ?_); (case h => walk_at "hs"); (case h2 => walk_at "hs"))
  | ((with_reducible show wipe _ _ = wipe _ _ ∧ _); refine ⟨rfl, ?_⟩) | with_reducible refine' w_yes1 ?_ | with_reducible refine' w_whT ?_
  | with_reducible refine' isI_int ?_ | with_reducible refine' isI_bool ?_ | with_reducible refine' isI_str ?_ | with_reducible refine' isI_tuple ?_ | with_reducible refine' isI_list ?_
  | with_reducible refine' isS_int ?_ | with_reducible refine' isS_bool ?_ | with_reducible refine' isS_str ?_ | with_reducible refine' isS_tuple ?_ | with_reducible refine' isS_list ?_
  | with_reducible refine' isN_int ?_ | with_reducible refine' isN_bool ?_ | with_reducible refine' isN_str ?_ | with_reducible refine' isN_tuple ?_ | with_reducible refine' isN_list ?_
  | with_reducible refine' isB_int ?_ | with_reducible refine' isB_bool ?_ | with_reducible refine' isB_str ?_ | with_reducible refine' isB_tuple ?_ | with_reducible refine' isB_list ?_
  | ((with_reducible refine' isT_int ?h ?_); (case h => walk_at "ht")) | ((with_reducible refine' isT_bool ?h ?_); (case h => walk_at "ht")) | ((with_reducible refine' isT_str ?h ?_); (case h => walk_at "ht")) | ((with_reducible refine' isT_tuple ?h ?_); (case h => walk_at "ht")) | ((with_reducible refine' isT_list ?h ?_); (case h => walk_at "ht"))
  | ((with_reducible refine' isL_int ?h ?_); (case h => walk_at "hs")) | ((with_reducible refine' isL_bool ?h ?_); (case h => walk_at "hs")) | ((with_reducible refine' isL_str ?h ?_); (case h => walk_at "hs")) | ((with_reducible refine' isL_tuple ?h ?_); (case h => walk_at "hs")) | ((with_reducible refine' isL_list ?h ?_); (case h => walk_at "hs"))
  | ((with_reducible refine' w_popC ?h ?_); (case h => walk_at "hh")) | ((with_reducible refine' w_tuple ?h ?_); (case h => walk_at "hs"))
  | with_reducible refine' w_snoc ?_ | with_reducible refine' w_snocN ?_ | with_reducible refine' w_conz ?_ | with_reducible refine' w_conzN ?_ | with_reducible refine' w_nilz ?_ | with_reducible refine' w_nilzN ?_
  | ((with_reducible refine' w_gTup ?h ?h2 ?_); (case h => walk_at "ht"); (case h2 => exact rfl))
  | ((with_reducible refine' w_powI ?h ?_); (case h => exact ⟨by decide, by decide, by decide⟩))
  | ((with_reducible refine' w_setL ?h ?h2 ?_); (case h => walk_at "hh"); (case h2 => exact rfl))
  | with_reducible refine' w_listRev ?_ | ((with_reducible refine' w_lRev ?h ?_); (case h => walk_at "ht"))
  | ((with_reducible refine' w_slL ?h ?_); (case h => walk_at "hs")) | ((with_reducible refine' w_list ?h ?_); (case h => walk_at "hs")) | ((with_reducible refine' w_extend ?h ?h2 ?h3 ?_); (case h => walk_at "hh"); (case h2 => walk_at "hh"); (case h3 => walk_at "sz"))
  | ((with_reducible refine' w_trL ?h ?_); (case h => walk_at "hs")) | ((with_reducible refine' w_trT ?h ?_); (case h => walk_at "ht"))
  | ((with_reducible refine' w_addL ?h ?h2 ?h3 ?_); (case h => walk_at "hh"); (case h2 => walk_at "hh"); (case h3 => walk_at "sz"))
  | ((with_reducible refine' w_eqN ?h ?h2 ?_); (case h => walk_at "hs"); (case h2 => walk_at "hs")) | ((with_reducible refine' w_neN ?h ?h2 ?_); (case h => walk_at "hs"); (case h2 => walk_at "hs"))
  | with_reducible refine' w_nt ?_ | with_reducible refine' w_nf ?_
  | with_reducible refine' iteT ?_ | with_reducible refine' iteF ?_)
local macro_rules | `(tactic| walk_at "wl") => `(tactic| repeat (walk_at "ws"))
def spLFits (K : PySem.W.Frag) : Sp := fun vs H Q _ => ∃ (a : Addr) (xs : List Nat), vs = [.ref a] ∧ SqL K H a (vN xs) ∧ xs.length ≤ 60000 ∧ (∀ x ∈ xs, x < 256) ∧ xs.count 4 ≤ 640 ∧ ∀ H', Ex H H' → Q (.bl true) H'
def spLIsD (K : PySem.W.Frag) : Sp := fun vs H Q _ => ∃ (v : V) (d : PyData) (a : Addr), vs = [v, .ref a] ∧ Dp K H v d ∧ good d = true ∧ deep d ≤ 60 ∧ (packD d).length ≤ 60000 ∧ SqL K H a (vN (packD d)) ∧ ∀ H', Ex H H' → Q (.bl true) H'
mutual
theorem good_lay : ∀ d : PyData, good d = true → PyData.canLay0 d = true ∧ PyData.depth d = deep d ∧ PyData.eqv d d = true
  | .none, _ => ⟨by unfold PyData.canLay0; rfl, by unfold PyData.depth; rfl, by unfold PyData.eqv; rfl⟩
  | .int i, _ => ⟨by unfold PyData.canLay0; rfl, by unfold PyData.depth; rfl, by unfold PyData.eqv; exact beq_self_eq_true _⟩
  | .bool _, h => by unfold good at h; cases h
  | .list _, h => by unfold good at h; cases h
  | .dict _, h => by unfold good at h; cases h
  | .str s, h => by
    unfold good at h
    rw [Bool.and_eq_true] at h
    refine ⟨?_, by unfold PyData.depth; rfl, by unfold PyData.eqv; exact beq_self_eq_true _⟩
    unfold PyData.canLay0 PyData.strOk
    rw [← Array.all_toList, List.all_eq_true]
    intro c hc
    have := List.all_eq_true.mp h.2 c hc
    unfold okc at this
    simp only [Bool.or_eq_true, Bool.and_eq_true, beq_iff_eq, decide_eq_true_eq, bne_iff_ne] at this ⊢
    omega
  | .tuple ds, h => by
    rw [good_tup, Bool.and_eq_true] at h
    obtain ⟨h1, h2, h3⟩ := goods_lay ds h.2
    exact ⟨by unfold PyData.canLay0; exact h1, by unfold PyData.depth; rw [h2]; rfl, by unfold PyData.eqv; exact h3⟩
theorem goods_lay : ∀ ds : List PyData, goods ds = true → PyData.canLayAll0 ds = true ∧ PyData.depthAll ds = deeps ds ∧ PyData.eqvAll ds ds = true
  | [], _ => ⟨by unfold PyData.canLayAll0; rfl, by unfold PyData.depthAll; rfl, by unfold PyData.eqvAll; rfl⟩
  | d :: ds, h => by
    rw [goods_cons, Bool.and_eq_true] at h
    obtain ⟨h1, h2, h3⟩ := good_lay d h.1
    obtain ⟨g1, g2, g3⟩ := goods_lay ds h.2
    exact ⟨by unfold PyData.canLayAll0; rw [h1, g1]; rfl, by unfold PyData.depthAll; rw [h2, g2]; rfl, by unfold PyData.eqvAll; rw [h3, g3]; rfl⟩
end
theorem good_shaped {d : PyData} (h : good d = true) (hd : deep d ≤ 64) : SeqAt.shaped d = true := by
  obtain ⟨h1, h2, _⟩ := good_lay d h
  unfold SeqAt.shaped
  rw [h1, h2]
  exact decide_eq_true hd
section
variable {P : Program} {w : World} {K : PySem.W.Frag} {mg : Str → Option Value} {base : Heap} {f : Addr} {fd : FuncData}
theorem ok_law_fits (T : Tx K mg) (F : FunD K "_law_fits" "_law_fits" (defArgs s_law_fits) (defBody s_law_fits) (defScope s_law_fits) [] [] f fd) (G_unpack : Fn P w K mg base 4 "unpack" (spUnpack K)) (G_law_pack : Fn P w K mg base 643 "_law_pack" (spLPack K 641)) : FnOkR P w K mg base 644 f fd ["octets"] (spLFits K) := by
  refine okR F sc_law_fits (fun vs H Q E h => ?_) (fun cdv A outer s H vs Q E hr h => ?_)
  · obtain ⟨a, xs, rfl, _⟩ := h
    rfl
  · obtain ⟨a, xs, rfl, hs, hsz, ho, hc, k⟩ := h
    refine ⟨_, (pss_cons (ps_try_as (i := 2) rfl rfl sc_law_fits.nd rfl rfl ⟨rfl, by decide, .inl T.g_FollowError⟩ (takes_of rfl rfl rfl rfl) (fun W pn xe tk _ => (pss_one (ps_set (i := 1) sc_law_fits.nd rfl (Or.inl rfl) (pe_f G_unpack hr (by omega) rfl (fun σ => passAt tk σ) (pa_cons (pv 0) pa_nil))))) (fun a oe cls d pn hz hf => pss_if (A := cls = .ref (He.ga K "Malformed") ∧ d = none) (fun hc => (pss_one (ps_ret (pe_and (pe_callB (call_isE2 T.e_Malformed hc hz hf) (by rfl) T.b_isinstance bt_isinstance (pa_cons (pv 2) (pa_cons (pe_glob (v := .ref (He.ga K "Malformed")) rfl T.g_Malformed rfl) pa_nil))) (pe_one (pe_callB (call_isE2 T.e_Malformed hc hz hf) (by rfl) T.b_isinstance bt_isinstance (pa_cons (pv 2) (pa_cons (pe_bltn (v := .ty "ValueError") (by rfl) T.b_ValueError bt_ValueError rfl) pa_nil))))))))))
      (pss_one (ps_ret (pe_cmpR (opEqK (K := K) hr.units) (pe_f G_law_pack hr (by omega) rfl (fun σ => px (takes_of rfl rfl rfl rfl) σ) (pa_cons (pv 1) pa_nil)) (pv 0) (nomark _))))), ?_⟩
    walk_at "wl"
    refine ⟨a, xs, rfl, hs, by omega, ho, ?_, ?_⟩
    · intro d0 v H1 hg hiff e1 hd
      have hp : packD d0 = xs := ((hiff d0).mpr rfl).2
      have hdeep := deep_le d0
      rw [hp] at hdeep
      have hs1 := e1.l hs
      walk_at "wl"
      refine ⟨v, d0, rfl, hd, hg, by omega, by rw [hp]; omega, ?_⟩
      intro p2 H2 e2 hp2 h2
      rw [hp] at h2
      have hs2 := e2.l hs1
      walk_at "wl"
      rw [decide_eq_true (rfl : xs = xs)]
      walk_at "wl"
      exact k H2 (e1.trans e2)
    · intro hno H1 e1
      refine ⟨true, T.m_Malformed__FollowError, fun _ ae hae => ⟨⟨rfl, rfl⟩, ?_⟩, fun z => nomatch z⟩
      walk_at "wl"
      refine isE_cls T.k_Malformed__Malformed ?_
      walk_at "wl"
      refine isE_ty T.k_Malformed__TValueError ?_
      walk_at "wl"
      exact k H1 e1
theorem lowN_lt : ∀ (k n : Nat), ∀ x ∈ lowN n k, x < 256
  | 0, _, x, h => nomatch h
  | k + 1, n, x, h => by
    rcases List.mem_cons.mp h with rfl | h
    · omega
    · exact lowN_lt k _ x h
theorem okc_lt {c : Nat} (h : okc c = true) : c < 256 := by
  unfold okc at h
  simp only [Bool.or_eq_true, Bool.and_eq_true, beq_iff_eq, decide_eq_true_eq, bne_iff_ne] at h
  omega
mutual
theorem packD_oct : ∀ d : PyData, good d = true → ∀ x ∈ packD d, x < 256
  | .none, _, x, h => by
    rw [packD_plain rfl] at h
    have := List.mem_singleton.mp h
    omega
  | .int i, g, x, h => by
    rw [packD_plain rfl] at h
    unfold good at g
    have g := of_decide_eq_true g
    simp only [plainO] at h
    rcases List.mem_cons.mp h with h | h
    · split at h <;> omega
    · rcases List.mem_cons.mp h with h | h
      · omega
      · exact size_lt _ x h
  | .bool _, g, _, _ => by unfold good at g; cases g
  | .list _, g, _, _ => by unfold good at g; cases g
  | .dict _, g, _, _ => by unfold good at g; cases g
  | .str s, g, x, h => by
    rw [packD_plain rfl] at h
    unfold good at g
    rw [Bool.and_eq_true] at g
    simp only [plainO] at h
    rcases List.mem_cons.mp h with h | h
    · omega
    · rcases List.mem_append.mp h with h | h
      · exact lowN_lt _ _ x h
      · exact okc_lt (List.all_eq_true.mp g.2 x h)
  | .tuple ds, g, x, h => by
    rw [good_tup, Bool.and_eq_true] at g
    rw [packD_tup] at h
    rcases List.mem_cons.mp h with h | h
    · omega
    · rcases List.mem_append.mp h with h | h
      · exact lowN_lt _ _ x h
      · exact packDs_oct ds g.2 x h
theorem packDs_oct : ∀ ds : List PyData, goods ds = true → ∀ x ∈ packDs ds, x < 256
  | [], _, x, h => by
    rw [packDs_nil] at h
    cases h
  | d :: ds, g, x, h => by
    rw [goods_cons, Bool.and_eq_true] at g
    rw [packDs_cons] at h
    rcases List.mem_append.mp h with h | h
    · exact packD_oct d g.1 x h
    · exact packDs_oct ds g.2 x h
end
theorem ok_law_is_deep (T : Tx K mg) (F : FunD K "_law_is_deep" "_law_is_deep" (defArgs s_law_is_deep) (defBody s_law_is_deep) (defScope s_law_is_deep) [] [] f fd) (G_unpack : Fn P w K mg base 4 "unpack" (spUnpack K)) (G_law_pack : Fn P w K mg base 643 "_law_pack" (spLPack K 641)) : FnOkR P w K mg base 644 f fd ["data", "octets"] (spLIsD K) := by
  refine okR F sc_law_is_deep (fun vs H Q E h => ?_) (fun cdv A outer s H vs Q E hr h => ?_)
  · obtain ⟨v, d, a, rfl, _⟩ := h
    rfl
  · obtain ⟨v, d, a, rfl, hd, hg, hdp, hsz, hs, k⟩ := h
    refine ⟨_, (pss_cons (ps_set (i := 2) sc_law_is_deep.nd rfl (Or.inl rfl) (pe_f G_unpack hr (by omega) rfl (fun σ => px (takes_of rfl rfl rfl rfl) σ) (pa_cons (pe_callTy (cListK (K := K)) (by rfl) T.b_list bt_list (pa_cons (pv 1) pa_nil)) pa_nil)))
      (pss_one (ps_ret (pe_and (pe_cmpR (opEqK (K := K) hr.units) (pv 2) (pv 0) (nomark _)) (pe_one (pe_cmpR (opEqK (K := K) hr.units) (pe_f G_law_pack hr (by omega) rfl (fun σ => px (takes_of rfl rfl rfl rfl) σ) (pa_cons (pv 2) pa_nil)) (pv 1) (nomark _))))))), ?_⟩
    walk_at "wl"
    intro p1 H1 hp1 e1 h1
    walk_at "wl"
    refine ⟨p1, packD d, rfl, SqL.of h1, by omega, packD_oct d hg, ?_, fun hno => absurd rfl (hno d hg)⟩
    intro d0 v0 H2 hg0 hiff e2 hd0
    have ed : d = d0 := (hiff d).mp ⟨hg, rfl⟩
    subst ed
    have hs2 : SqL K H2 a (vN (packD d)) := e2.l (e1.l hs)
    walk_at "wl"
    refine w_eqD hd0 (dp_ex (e1.trans e2) hd) (good_shaped hg (by omega)) (good_shaped hg (by omega)) ?_
    rw [(good_lay d hg).2.2]
    walk_at "wl"
    refine ⟨v0, d, rfl, hd0, hg, by omega, by omega, ?_⟩
    intro p3 H3 e3 hp3 h3
    have hs3 := e3.l hs2
    walk_at "wl"
    rw [decide_eq_true (rfl : packD d = packD d)]
    walk_at "wl"
    exact k H3 ((e1.trans e2).trans e3)
end
end K47

namespace K47
open PySem PySem.Spec PyProof.Rows L2 Hf
local macro_rules | `(tactic| walk_at "hh") => `(tactic| first | assumption | exact Chg.at_ (by assumption) | (refine Ex.use (by assumption) ?_; walk_at "hh") | (refine Chg.use (by assumption) ?_ ?_; (walk_at "hne"); (walk_at "hh")))
local macro_rules | `(tactic| walk_at "hne") => `(tactic| first | assumption | exact Ne.symm (by assumption) | exact ne_fresh (by assumption) (by walk_at "hh") | exact (ne_fresh (by assumption) (by walk_at "hh")).symm)
local macro_rules | `(tactic| walk_at "hn") => `(tactic| first | assumption | exact Ex.fresh (by assumption) (by walk_at "hn") | exact Chg.fresh (by assumption) (by walk_at "hn"))
local macro_rules | `(tactic| walk_at "hx") => `(tactic| first | assumption | exact Ex.refl _ | (refine Ex.trans ?_ (by assumption); walk_at "hx") | (refine Chg.ex ?_ (by assumption) ?_; (walk_at "hx"); (walk_at "hn")))
local macro_rules | `(tactic| walk_at "hs") => `(tactic| first | assumption | exact SqL.of (by walk_at "hh") | exact Ex.l (by walk_at "hx") (by assumption) | (refine Chg.l (by assumption) ?_ ?_; (walk_at "hne"); (walk_at "hs")))
local macro_rules | `(tactic| walk_at "ht") => `(tactic| first | assumption | exact SqT.of (by walk_at "hh") | exact Ex.t (by walk_at "hx") (by assumption) | (refine Chg.t (by assumption) ?_ ?_; (walk_at "hne"); (walk_at "ht")))
local macro_rules | `(tactic| walk_at "sz") => `(tactic| first | decide | omega | (simp only [List.length_append, List.length_cons, List.length_nil, List.length_map, List.length_reverse] <;> omega))
local macro_rules | `(tactic| walk_at "cm") => `(tactic| first | exact .inr ⟨by decide, by decide⟩ | exact .inl ⟨by decide, by decide⟩ | exact .inr ⟨by omega, by omega⟩ | exact .inl ⟨by omega, by omega⟩)
local macro_rules | `(tactic| walk_at "do") => `(tactic| first | decide | omega)
local macro_rules | `(tactic| walk_at "ws") => `(tactic| first
  | ((with_reducible refine' w_var ?h ?_); (case h => exact rfl)) | with_reducible refine' w_c ?_ | with_reducible refine' w_op ?_ | with_reducible refine' w_seq ?_ | with_reducible refine' w_asg ?_ | with_reducible refine' w_gName ?_ | ((with_reducible show Ends.nx _ _ _); dsimp only) | with_reducible refine' w_cons ?_ | with_reducible refine' w_nil ?_ | with_reducible refine' w_cb ?_ | with_reducible refine' w_cal ?_
  | with_reducible refine' w_drop ?_ | with_reducible refine' w_ret ?_ | with_reducible refine' w_ifS ?_ | with_reducible refine' w_test ?_ | with_reducible refine' w_bl ?_ | with_reducible refine' w_next ?_
  | with_reducible refine' w_addI ?_ | with_reducible refine' w_subI ?_ | with_reducible refine' w_eqI ?_ | with_reducible refine' w_neI ?_ | with_reducible refine' w_lt ?_ | with_reducible refine' w_le ?_ | with_reducible refine' w_gt ?_ | with_reducible refine' w_ge ?_ | with_reducible refine' w_eqS ?_ | with_reducible refine' w_neS ?_ | with_reducible refine' isN_I ?_ | with_reducible refine' isN_S ?_ | with_reducible refine' isN_B ?_ | with_reducible refine' isN_R ?_ | with_reducible refine' isN_N ?_ | with_reducible refine' isNot_I ?_ | with_reducible refine' isNot_S ?_ | with_reducible refine' isNot_B ?_ | with_reducible refine' isNot_R ?_ | with_reducible refine' isNot_N ?_ | with_reducible refine' w_isN ?_ | with_reducible refine' w_isNotN ?_ | with_reducible refine' w_ord1 ?_
  | ((with_reducible refine' w_modI ?h ?_); (case h => walk_at "do")) | ((with_reducible refine' w_divI ?h ?h2 ?_); (case h => walk_at "do"); (case h2 => walk_at "do")) | ((with_reducible refine' w_mulI ?h ?_); (case h => walk_at "cm")) | with_reducible refine' w_negI ?_ | with_reducible refine' w_un ?_
  | with_reducible refine' w_intI ?_ | with_reducible refine' w_intB ?_ | with_reducible refine' w_abs ?_ | with_reducible refine' w_not ?_ | with_reducible refine' w_and ?_ | with_reducible refine' w_or ?_ | with_reducible refine' w_if ?_ | with_reducible refine' w_notV ?_ | with_reducible refine' w_andV ?_ | with_reducible refine' w_orV ?_ | with_reducible refine' w_chain ?_
  | with_reducible refine' w_tTr ?_ | with_reducible refine' w_trB ?_ | with_reducible refine' w_trI ?_ | with_reducible refine' w_trN ?_ | with_reducible refine' w_tB ?_ | ((with_reducible refine' w_augI ?h ?_); (case h => exact rfl)) | with_reducible refine' w_int ?_
  | with_reducible refine' w_lst ?_ | with_reducible refine' w_tup ?_ | ((with_reducible refine' w_newL ?h ?_); (case h => walk_at "sz")) | ((with_reducible refine' w_newT ?h ?_); (case h => walk_at "sz"))
  | with_reducible refine' w_sl ?_ | with_reducible refine' w_noPart ?_ | with_reducible refine' w_part ?_ | with_reducible refine' w_partI ?_ | with_reducible refine' w_bm0 ?_ | with_reducible refine' w_bm ?_ | with_reducible refine' w_sub ?_ | with_reducible refine' w_gCons ?_ | with_reducible refine' w_gNil ?_
  | ((with_reducible refine' w_ixL ?h ?h2 ?_); (case h => walk_at "hs"); (case h2 => first | exact rfl | exact atI_last)) | ((with_reducible refine' w_ixT ?h ?h2 ?_); (case h => walk_at "ht"); (case h2 => exact rfl))
  | ((with_reducible refine' w_lenL ?h ?_); (case h => walk_at "hs")) | ((with_reducible refine' w_lenT ?h ?_); (case h => walk_at "ht"))
  | ((with_reducible refine' w_tyL ?h ?_); (case h => walk_at "hh")) | with_reducible refine' w_tyS ?_ | ((with_reducible refine' w_append ?h ?h2 ?_); (case h => walk_at "hh"); (case h2 => walk_at "sz"))
  | ((with_reducible show Ends.rt _ _ _); dsimp only) | ((with_reducible show Ends.bk _ _ _); dsimp only) | ((with_reducible show Ends.ct _ _ _); dsimp only) | with_reducible refine' w_break ?_ | with_reducible refine' w_cont ?_ | with_reducible refine' w_retN ?_
  | with_reducible refine' w_for ?_ | with_reducible refine' w_lc ?_ | with_reducible refine' w_iAny ?_ | with_reducible refine' w_iRng1 ?_ | with_reducible refine' w_iRng2 ?_ | with_reducible refine' w_iEnum ?_ | with_reducible refine' w_iZip ?_ | with_reducible refine' w_iRev ?_
  | ((with_reducible refine' w_rng ?h ?h2 ?_); (case h => walk_at "do"); (case h2 => walk_at "do")) | ((with_reducible refine' w_rng2 ?h ?h2 ?h3 ?h4 ?_); (case h => walk_at "do"); (case h2 => walk_at "do"); (case h3 => walk_at "do"); (case h4 => walk_at "do"))
  | ((with_reducible refine' w_itL ?h ?_); (case h => walk_at "hs")) | ((with_reducible refine' w_itT ?h ?_); (case h => walk_at "ht")) | with_reducible refine' w_itS ?_ | ((with_reducible refine' w_itRL ?h ?_); (case h => walk_at "hs")) | ((with_reducible refine' w_itRT ?h ?_); (case h => walk_at "ht"))
  | ((with_reducible refine' w_itEn ?h ?_); (case h => walk_at "hs")) | ((with_reducible refine' w_itZ ?h ?h2 ?_); (case h => walk_at "hs"); (case h2 => walk_at "hs"))
  | ((with_reducible show wipe _ _ = wipe _ _ ∧ _); refine ⟨rfl, ?_⟩) | with_reducible refine' w_yes1 ?_ | with_reducible refine' w_whT ?_
  | with_reducible refine' isI_int ?_ | with_reducible refine' isI_bool ?_ | with_reducible refine' isI_str ?_ | with_reducible refine' isI_tuple ?_ | with_reducible refine' isI_list ?_
  | with_reducible refine' isS_int ?_ | with_reducible refine' isS_bool ?_ | with_reducible refine' isS_str ?_ | with_reducible refine' isS_tuple ?_ | with_reducible refine' isS_list ?_
  | with_reducible refine' isN_int ?_ | with_reducible refine' isN_bool ?_ | with_reducible refine' isN_str ?_ | with_reducible refine' isN_tuple ?_ | with_reducible refine' isN_list ?_
  | with_reducible refine' isB_int ?_ | with_reducible refine' isB_bool ?_ | with_reducible refine' isB_str ?_ | with_reducible refine' isB_tuple ?_ | with_reducible refine' isB_list ?_
  | ((with_reducible refine' isT_int ?h ?_); (case h => walk_at "ht")) | ((with_reducible refine' isT_bool ?h ?_); (case h => walk_at "ht")) | ((with_reducible refine' isT_str ?h ?_); (case h => walk_at "ht")) | ((with_reducible refine' isT_tuple ?h ?_); (case h => walk_at "ht")) | ((with_reducible refine' isT_list ?h ?_); (case h => walk_at "ht"))
  | ((with_reducible refine' isL_int ?h ?_); (case h => walk_at "hs")) | ((with_reducible refine' isL_bool ?h ?_); (case h => walk_at "hs")) | ((with_reducible refine' isL_str ?h ?_); (case h => walk_at "hs")) | ((with_reducible refine' isL_tuple ?h ?_); (case h => walk_at "hs")) | ((with_reducible refine' isL_list ?h ?_); (case h => walk_at "hs"))
  | ((with_reducible refine' w_popC ?h ?_); (case h => walk_at "hh")) | ((with_reducible refine' w_tuple ?h ?_); (case h => walk_at "hs"))
  | with_reducible refine' w_snoc ?_ | with_reducible refine' w_snocN ?_ | with_reducible refine' w_conz ?_ | with_reducible refine' w_conzN ?_ | with_reducible refine' w_nilz ?_ | with_reducible refine' w_nilzN ?_
  | ((with_reducible refine' w_gTup ?h ?h2 ?_); (case h => walk_at "ht"); (case h2 => exact rfl))
  | ((with_reducible refine' w_powI ?h ?_); (case h => exact ⟨by decide, by decide, by decide⟩))
  | ((with_reducible refine' w_setL ?h ?h2 ?_); (case h => walk_at "hh"); (case h2 => exact rfl))
  | with_reducible refine' w_listRev ?_ | ((with_reducible refine' w_lRev ?h ?_); (case h => walk_at "ht"))
  | ((with_reducible refine' w_slL ?h ?_); (case h => walk_at "hs")) | ((with_reducible refine' w_list ?h ?_); (case h => walk_at "hs")) | ((with_reducible refine' w_extend ?h ?h2 ?h3 ?_); (case h => walk_at "hh"); (case h2 => walk_at "hh"); (case h3 => walk_at "sz"))
  | ((with_reducible refine' w_trL ?h ?_); (case h => walk_at "hs")) | ((with_reducible refine' w_trT ?h ?_); (case h => walk_at "ht"))
  | ((with_reducible refine' w_addL ?h ?h2 ?h3 ?_); (case h => walk_at "hh"); (case h2 => walk_at "hh"); (case h3 => walk_at "sz"))
  | ((with_reducible refine' w_eqN ?h ?h2 ?_); (case h => walk_at "hs"); (case h2 => walk_at "hs")) | ((with_reducible refine' w_neN ?h ?h2 ?_); (case h => walk_at "hs"); (case h2 => walk_at "hs"))
  | with_reducible refine' w_nt ?_ | with_reducible refine' w_nf ?_
  | with_reducible refine' iteT ?_ | with_reducible refine' iteF ?_)
local macro_rules | `(tactic| walk_at "wl") => `(tactic| repeat (walk_at "ws"))
def spLaw (K : PySem.W.Frag) : Sp := fun vs H Q _ => ∃ (a : Addr) (ns : List Int), vs = [.ref a] ∧ SqL K H a (ns.map V.int) ∧ ∀ H', Q (.bl true) H'
theorem sm_lay : good (.tuple [.int 1, .tuple [.none, .str "a"]]) = true ∧ deep (.tuple [.int 1, .tuple [.none, .str "a"]]) = 2 := by
  constructor
  · rw [good_tup, goods_cons, goods_cons, good_tup, goods_cons, goods_cons]
    have h1 : good (.int 1) = true := (int_small (i := 1) (by decide)).1
    have h2 : good (.str "a") = true := by unfold good; rfl
    have h3 : good .none = true := by unfold good; rfl
    rw [h1, h2, h3]
    unfold goods
    rfl
  · rfl
theorem sm_len : (packD (.tuple [.int 1, .tuple [.none, .str "a"]])).length ≤ 100000 := by
  rw [packD_tup, packDs_cons, packDs_cons, packDs_nil, packD_tup, packDs_cons, packDs_cons, packDs_nil, packD_plain (d := .int 1) rfl, packD_plain (d := .none) rfl, packD_plain (d := .str "a") rfl]
  have h1 := (int_small (i := 1) (by decide)).2.1
  have h2 : (plainO (.str "a")).length = 4 := rfl
  have h3 : (plainO .none).length = 1 := rfl
  simp only [List.length_append, List.length_cons, lowN_len, List.length_nil]
  omega
section
variable {P : Program} {w : World} {K : PySem.W.Frag} {mg : Str → Option Value} {base : Heap} {f : Addr} {fd : FuncData}
theorem ok_law (T : Tx K mg) (F : FunD K "law" "law" (defArgs s_law) (defBody s_law) (defScope s_law) [] [] f fd) (G_law_number : Fn P w K mg base 1 "_law_number" (spNumber K)) (G_law_deep : Fn P w K mg base 7 "_law_deep" (spLDeep K 4)) (G_pack : Fn P w K mg base 3 "pack" (spPack K)) (G_law_pack : Fn P w K mg base 643 "_law_pack" (spLPack K 641))
    (G_law_is_deep : Fn P w K mg base 644 "_law_is_deep" (spLIsD K)) (G_law_other : Fn P w K mg base 2 "_law_other" (spLOther K)) (G_law_fits : Fn P w K mg base 644 "_law_fits" (spLFits K)) : FnOkR P w K mg base 645 f fd ["script"] (spLaw K) := by
  refine okR F sc_law (fun vs H Q E h => ?_) (fun cdv A outer s H vs Q E hr h => ?_)
  · obtain ⟨a, ns, rfl, _⟩ := h
    rfl
  · obtain ⟨a, ns, rfl, hs, k⟩ := h
    refine ⟨_, (pss_cons (ps_for (passes_of rfl) rfl (pi_range1 rfl T.b_range (pa_cons pe_int pa_nil)) (pg_name (i := 1) sc_law.nd rfl (Or.inl rfl)) (pss_cons (ps_set (i := 2) sc_law.nd rfl (Or.inl rfl) (pe_f G_law_deep hr (by omega) rfl (fun σ => px (takes_of rfl rfl rfl rfl) σ) (pa_cons (pe_f G_law_number hr (by omega) rfl (fun σ => px (takes_of rfl rfl rfl rfl) σ) (pa_cons (pv 0) (pa_cons (pv 1) pa_nil))) (pa_cons pe_int pa_nil))))
      (pss_cons (ps_set (i := 3) sc_law.nd rfl (Or.inl rfl) (pe_f G_pack hr (by omega) rfl (fun σ => px (takes_of rfl rfl rfl rfl) σ) (pa_cons (pv 2) pa_nil)))
      (pss_cons (ps_if (PW.pt (pw_or (pt_not (trK (K := K) (pe_callB (cIsiK (K := K)) (by rfl) T.b_isinstance bt_isinstance (pa_cons (pv 3) (pa_cons (pe_bltn (v := .ty "list") (by rfl) T.b_list bt_list rfl) pa_nil))))) (pw_or (pt_cmpR (opNeK (K := K) hr.units) (pv 3) (pe_f G_law_pack hr (by omega) rfl (fun σ => px (takes_of rfl rfl rfl rfl) σ) (pa_cons (pv 2) pa_nil)) (nomark _)) (pw_or1 (pt_not (trK (K := K) (pe_f G_law_is_deep hr (by omega) rfl (fun σ => px (takes_of rfl rfl rfl rfl) σ) (pa_cons (pv 2) (pa_cons (pv 3) pa_nil))))))))) (pss_one (ps_ret pe_bl)) pss_nil)
      (pss_one (ps_for (passes_of rfl) rfl (pi_range1 rfl T.b_range (pa_cons pe_int pa_nil)) (pg_name (i := 4) sc_law.nd rfl (Or.inl rfl)) (pss_cons (ps_set (i := 5) sc_law.nd rfl (Or.inl rfl) (pe_f G_law_other hr (by omega) rfl (fun σ => px (takes_of rfl rfl rfl rfl) σ) (pa_cons (pv 3) (pa_cons (pe_lst (pa_cons (pe_f G_law_number hr (by omega) rfl (fun σ => px (takes_of rfl rfl rfl rfl) σ) (pa_cons (pv 0) (pa_cons (pe_op (opAddK (K := K)) (pe_op (opAddK (K := K)) pe_int (pe_op opMulA pe_int (pv 1))) (pv 4)) pa_nil))) pa_nil)) pa_nil))))
      (pss_cons (ps_set (i := 6) sc_law.nd rfl (Or.inl rfl) (pe_callTy (cListK (K := K)) (by rfl) T.b_list bt_list (pa_cons (pv 5) pa_nil)))
      (pss_one (ps_if (PW.pt (pw_or (pt_not (trK (K := K) (pe_f G_law_fits hr (by omega) rfl (fun σ => px (takes_of rfl rfl rfl rfl) σ) (pa_cons (pv 6) pa_nil)))) (pw_or1 (pt_cmpR (opNeK (K := K) hr.units) (pv 6) (pv 5) (nomark _))))) (pss_one (ps_ret pe_bl)) pss_nil))))))))))
      (pss_one (ps_ret (pe_and (pe_f G_law_fits hr (by omega) rfl (fun σ => px (takes_of rfl rfl rfl rfl) σ) (pa_cons (pe_lst (pa_cons pe_int (pa_cons pe_int (pa_cons pe_int pa_nil)))) pa_nil)) (pe_and (pe_f G_law_fits hr (by omega) rfl (fun σ => px (takes_of rfl rfl rfl rfl) σ) (pa_cons (pe_lst pa_nil) pa_nil)) (pe_one (pe_cmpR (opEqK (K := K) hr.units) (pe_f G_pack hr (by omega) rfl (fun σ => px (takes_of rfl rfl rfl rfl) σ) (pa_cons (pe_tup (pa_cons pe_int (pa_cons (pe_tup (pa_cons pe_non (pa_cons pe_str pa_nil))) pa_nil))) pa_nil)) (pe_f G_law_pack hr (by omega) rfl (fun σ => px (takes_of rfl rfl rfl rfl) σ) (pa_cons (pe_tup (pa_cons pe_int (pa_cons (pe_tup (pa_cons pe_non (pa_cons pe_str pa_nil))) pa_nil))) pa_nil)) (nomark _)))))))), ?_⟩
    walk_at "wl"
    refine w_forR (fun i σ H' => Ex H H' ∧ ∃ o1 o2 o3 o4 o5 o6, σ = [some (.ref a), o1, o2, o3, o4, o5, o6]) ⟨Ex.refl H, _, _, _, _, _, _, rfl⟩ ?_ ?_
    · rintro i σ H1 hi ⟨e1, o1, o2, o3, o4, o5, o6, rfl⟩
      have hi12 : i < 12 := hi
      have hs1 := e1.l hs
      walk_at "wl"
      rw [show (0 + (i : Int)) = (i : Int) by omega]
      refine ⟨a, ns, i, rfl, hs1, fun n => ?_⟩
      walk_at "wl"
      refine ⟨n, 3, rfl, by decide, ?_⟩
      intro v d H2 e2 hd hg hdp hl hc
      have hl' : (packD d).length ≤ 19455 := hl
      have hc' : (packD d).count 4 ≤ 639 := hc
      walk_at "wl"
      refine ⟨v, d, rfl, hd, hg, by omega, ?_⟩
      intro p3 H3 e3 hp3 h3
      walk_at "wl"
      have hd3 := dp_ex e3 hd
      refine ⟨v, d, rfl, hd3, hg, by omega, by omega, ?_⟩
      intro p4 H4 e4 hp4 h4
      walk_at "wl"
      rw [decide_eq_true (rfl : packD d = packD d)]
      walk_at "wl"
      refine ⟨v, d, p3, rfl, dp_ex e4 hd3, hg, by omega, by omega, SqL.of (e4.use h3), ?_⟩
      intro H5 e5
      walk_at "wl"
      have h35 := e5.use (e4.use h3)
      have e05 : Ex H H5 := (((e1.trans e2).trans e3).trans e4).trans e5
      refine w_forR (fun j σ H' => Ex H5 H' ∧ ∃ o4 o5 o6, σ = [some (.ref a), some (.int (i : Int)), some v, some (.ref p3), o4, o5, o6]) ⟨Ex.refl H5, _, _, _, rfl⟩ ?_ ?_
      · rintro j σ H6 hj ⟨e6, o4, o5, o6, rfl⟩
        have hj4 : j < 4 := hj
        have h36 := e6.use h35
        have hs6 := e6.l (e05.l hs)
        walk_at "wl"
        rw [show (20 + 4 * (i : Int) + (0 + (j : Int))) = ((20 + 4 * i + j : Nat) : Int) by omega]
        refine ⟨a, ns, 20 + 4 * i + j, rfl, hs6, fun n2 => ?_⟩
        walk_at "wl"
        intro b H7 hb7 e7 h7
        have h37 := e7.use h36
        walk_at "wl"
        refine ⟨p3, packD d, b, n2, rfl, h37, ne_fresh hb7 h36, h7, packD_ne hg, by omega, packD_oct d hg, ?_⟩
        intro ys p8 H8 bx8 hp8 h8 oth
        have e8 : Ex H6 H8 := bx8.ex e7 hb7
        obtain ⟨ol, oo, oc⟩ := oth
        walk_at "wl"
        intro p9 H9 hp9 e9 h9
        walk_at "wl"
        refine ⟨p9, ys, rfl, SqL.of h9, by omega, oo, by omega, ?_⟩
        intro H10 e10
        walk_at "wl"
        rw [decide_eq_true (rfl : ys = ys)]
        walk_at "wl"
        exact ⟨((e6.trans e8).trans e9).trans e10, _, _, _, rfl⟩
      · rintro σ H6 ⟨e6, o4, o5, o6, rfl⟩
        walk_at "wl"
        exact ⟨e05.trans e6, _, _, _, _, _, _, rfl⟩
    · rintro σ H1 ⟨e1, o1, o2, o3, o4, o5, o6, rfl⟩
      walk_at "wl"
      intro p2 H2 hp2 e2 h2
      walk_at "wl"
      refine ⟨p2, [1, 1, 0], rfl, SqL.of h2, by decide, by decide, by decide, ?_⟩
      intro H3 e3
      walk_at "wl"
      intro p4 H4 hp4 e4 h4
      walk_at "wl"
      refine ⟨p4, [], rfl, SqL.of h4, by decide, by decide, by decide, ?_⟩
      intro H5 e5
      walk_at "wl"
      intro p6 H6 hp6 e6 h6
      walk_at "wl"
      intro p7 H7 hp7 e7 h7
      walk_at "wl"
      have hd7 : Dp K H7 (.ref p7) (.tuple [.int 1, .tuple [.none, .str "a"]]) := .tup (SqT.of h7) (.cons (.int 1) (.cons (.tup (SqT.of (e7.use h6)) (.cons .non (.cons (.str "a") .nil))) .nil))
      refine ⟨_, _, rfl, hd7, sm_lay.1, sm_len, ?_⟩
      intro p8 H8 e8 hp8 h8
      walk_at "wl"
      intro p9 H9 hp9 e9 h9
      walk_at "wl"
      intro p10 H10 hp10 e10 h10
      walk_at "wl"
      have hd10 : Dp K H10 (.ref p10) (.tuple [.int 1, .tuple [.none, .str "a"]]) := .tup (SqT.of h10) (.cons (.int 1) (.cons (.tup (SqT.of (e10.use h9)) (.cons .non (.cons (.str "a") .nil))) .nil))
      refine ⟨_, _, rfl, hd10, sm_lay.1, by rw [sm_lay.2]; decide, sm_len, ?_⟩
      intro p11 H11 e11 hp11 h11
      walk_at "wl"
      rw [decide_eq_true rfl]
      exact k _
end
end K47

namespace K47
open PySem PySem.Spec PyProof.Rows L2 Hf
def d_is_integer : He.DefD := ⟨("is_integer", none), "is_integer", "is_integer", defArgs s_is_integer, defBody s_is_integer, defScope s_is_integer, [], []⟩
def d_low_octets : He.DefD := ⟨("low_octets", none), "low_octets", "low_octets", defArgs s_low_octets, defBody s_low_octets, defScope s_low_octets, [], []⟩
def d_number_of : He.DefD := ⟨("number_of", none), "number_of", "number_of", defArgs s_number_of, defBody s_number_of, defScope s_number_of, [], []⟩
def d_size_octets : He.DefD := ⟨("size_octets", none), "size_octets", "size_octets", defArgs s_size_octets, defBody s_size_octets, defScope s_size_octets, [], []⟩
def d_pack_plain : He.DefD := ⟨("pack_plain", none), "pack_plain", "pack_plain", defArgs s_pack_plain, defBody s_pack_plain, defScope s_pack_plain, [], []⟩
def d_pack : He.DefD := ⟨("pack", none), "pack", "pack", defArgs s_pack, defBody s_pack, defScope s_pack, [], []⟩
def d_need : He.DefD := ⟨("need", none), "need", "need", defArgs s_need, defBody s_need, defScope s_need, [], []⟩
def d_unpack_number : He.DefD := ⟨("unpack_number", none), "unpack_number", "unpack_number", defArgs s_unpack_number, defBody s_unpack_number, defScope s_unpack_number, [], []⟩
def d_sign_of : He.DefD := ⟨("sign_of", none), "sign_of", "sign_of", defArgs s_sign_of, defBody s_sign_of, defScope s_sign_of, [], []⟩
def d_unpack_text : He.DefD := ⟨("unpack_text", none), "unpack_text", "unpack_text", defArgs s_unpack_text, defBody s_unpack_text, defScope s_unpack_text, [], []⟩
def d_unpack_plain : He.DefD := ⟨("unpack_plain", none), "unpack_plain", "unpack_plain", defArgs s_unpack_plain, defBody s_unpack_plain, defScope s_unpack_plain, [], []⟩
def d_unpack : He.DefD := ⟨("unpack", none), "unpack", "unpack", defArgs s_unpack, defBody s_unpack, defScope s_unpack, [], []⟩
def d_law_number : He.DefD := ⟨("_law_number", none), "_law_number", "_law_number", defArgs s_law_number, defBody s_law_number, defScope s_law_number, [], []⟩
def d_law_take : He.DefD := ⟨("_law_take", none), "_law_take", "_law_take", defArgs s_law_take, defBody s_law_take, defScope s_law_take, [], []⟩
def d_law_low : He.DefD := ⟨("_law_low", none), "_law_low", "_law_low", defArgs s_law_low, defBody s_law_low, defScope s_law_low, [], []⟩
def d_law_pack : He.DefD := ⟨("_law_pack", none), "_law_pack", "_law_pack", defArgs s_law_pack, defBody s_law_pack, defScope s_law_pack, [], []⟩
def d_law_plain : He.DefD := ⟨("_law_plain", none), "_law_plain", "_law_plain", defArgs s_law_plain, defBody s_law_plain, defScope s_law_plain, [], []⟩
def d_law_deep : He.DefD := ⟨("_law_deep", none), "_law_deep", "_law_deep", defArgs s_law_deep, defBody s_law_deep, defScope s_law_deep, [], []⟩
def d_law_other : He.DefD := ⟨("_law_other", none), "_law_other", "_law_other", defArgs s_law_other, defBody s_law_other, defScope s_law_other, [], []⟩
def d_law_fits : He.DefD := ⟨("_law_fits", none), "_law_fits", "_law_fits", defArgs s_law_fits, defBody s_law_fits, defScope s_law_fits, [], []⟩
def d_law_is_deep : He.DefD := ⟨("_law_is_deep", none), "_law_is_deep", "_law_is_deep", defArgs s_law_is_deep, defBody s_law_is_deep, defScope s_law_is_deep, [], []⟩
def d_law : He.DefD := ⟨("law", none), "law", "law", defArgs s_law, defBody s_law, defScope s_law, [], []⟩
def fn : List He.DefD := [d_is_integer, d_low_octets, d_number_of, d_size_octets, d_pack_plain, d_pack, d_need, d_unpack_number, d_sign_of, d_unpack_text, d_unpack_plain, d_unpack, d_law_number, d_law_take, d_law_low, d_law_pack, d_law_plain, d_law_deep, d_law_other, d_law_fits, d_law_is_deep, d_law]
def fa : List He.Fa := ([.free "isinstance", .free "bool", .free "int", .free "range", .free "reversed", .int "TEXT" 3, .free "len", .free "ord", .int "MINUS" 2, .int "NUMBER" 1, .free "abs", .int "NOTHING" 0, .free "tuple", .free "list", .int "MANY" 4, .exc "Malformed", .glo "Malformed", .str "SIGNS" " !\"#$&'()*+,-./0123456789:;<=>?@ABCDEFGHIJKLMNOPQRSTUVWXYZ[\\]^_`abcdefghijklmnopqrstuvwxyz{|}~", .int "BARRED" 37, .int "LINE_END" 10, .free "str", .glo "FollowError", .free "ValueError", .exm "Malformed" "FollowError" true, .glo "is_integer", .glo "low_octets", .glo "number_of", .glo "size_octets", .glo "pack_plain", .glo "pack", .glo "need", .glo "unpack_number", .glo "sign_of", .glo "unpack_text", .glo "unpack_plain", .glo "unpack", .glo "_law_number", .glo "_law_take", .glo "_law_low", .glo "_law_pack"] : List He.Fa) ++ ([.glo "_law_plain", .glo "_law_deep", .glo "_law_other", .glo "_law_fits", .glo "_law_is_deep", .glo "law"] : List He.Fa)
def names : List Str := (["is_integer", "FollowError", "Malformed", "NOTHING", "NUMBER", "MINUS", "TEXT", "MANY", "SIGNS", "LINE_END", "BARRED", "low_octets", "number_of", "size_octets", "pack_plain", "pack", "need", "unpack_number", "sign_of", "unpack_text", "unpack_plain", "unpack", "_law_number", "_law_take", "_law_low", "_law_pack", "_law_plain", "_law_deep", "_law_other", "_law_fits", "_law_is_deep"] : List Str)
def exs (K : PySem.W.Frag) : List Bool := [exC K "Malformed", decide (PySem.W.kitOne K (.ref (He.ga K "Malformed")) (.ref (He.ga K "Malformed")) = some true), decide (PySem.W.kitOne K (.ref (He.ga K "Malformed")) (.type "ValueError") = some true)]
def ex (K : PySem.W.Frag) : Bool := (exs K).all id
theorem ex_get {K : PySem.W.Frag} (h : ex K = true) (i : Nat) {b : Bool} (e : (exs K)[i]? = some b := by rfl) : b = true := List.all_eq_true.mp h b (List.mem_of_getElem? e)
theorem tx_of {K : PySem.W.Frag} {h : Heap} {mg : Str → Option Value} (X : K.In h) (G : h.Ns mainGlobals mg) (c : He.SaysD fa fn K) (hx : ex K = true) : Tx K mg where
  b_isinstance := He.free_ok X G (c.fact 0 (f := .free "isinstance") rfl)
  b_bool := He.free_ok X G (c.fact 1 (f := .free "bool") rfl)
  b_int := He.free_ok X G (c.fact 2 (f := .free "int") rfl)
  b_range := He.free_ok X G (c.fact 3 (f := .free "range") rfl)
  b_reversed := He.free_ok X G (c.fact 4 (f := .free "reversed") rfl)
  c_TEXT := He.int_ok X G (c.fact 5 (f := .int "TEXT" 3) rfl)
  b_len := He.free_ok X G (c.fact 6 (f := .free "len") rfl)
  b_ord := He.free_ok X G (c.fact 7 (f := .free "ord") rfl)
  c_MINUS := He.int_ok X G (c.fact 8 (f := .int "MINUS" 2) rfl)
  c_NUMBER := He.int_ok X G (c.fact 9 (f := .int "NUMBER" 1) rfl)
  b_abs := He.free_ok X G (c.fact 10 (f := .free "abs") rfl)
  c_NOTHING := He.int_ok X G (c.fact 11 (f := .int "NOTHING" 0) rfl)
  b_tuple := He.free_ok X G (c.fact 12 (f := .free "tuple") rfl)
  b_list := He.free_ok X G (c.fact 13 (f := .free "list") rfl)
  c_MANY := He.int_ok X G (c.fact 14 (f := .int "MANY" 4) rfl)
  x_Malformed := He.exc_ok (c.fact 15 (f := .exc "Malformed") rfl)
  g_Malformed := He.glo_ok X G (c.fact 16 (f := .glo "Malformed") rfl)
  c_SIGNS := He.str_ok X G (c.fact 17 (f := .str "SIGNS" " !\"#$&'()*+,-./0123456789:;<=>?@ABCDEFGHIJKLMNOPQRSTUVWXYZ[\\]^_`abcdefghijklmnopqrstuvwxyz{|}~") rfl)
  c_BARRED := He.int_ok X G (c.fact 18 (f := .int "BARRED" 37) rfl)
  c_LINE_END := He.int_ok X G (c.fact 19 (f := .int "LINE_END" 10) rfl)
  b_str := He.free_ok X G (c.fact 20 (f := .free "str") rfl)
  g_FollowError := He.glo_ok X G (c.fact 21 (f := .glo "FollowError") rfl)
  b_ValueError := He.free_ok X G (c.fact 22 (f := .free "ValueError") rfl)
  e_Malformed := exC_ok (ex_get hx 0)
  k_Malformed__Malformed := of_decide_eq_true (ex_get hx 1)
  k_Malformed__TValueError := of_decide_eq_true (ex_get hx 2)
  m_Malformed__FollowError := He.exm_ok (c.fact 23 (f := .exm "Malformed" "FollowError" true) rfl)
theorem facts {P : Program} {w : World} {K : PySem.W.Frag} {h : Heap} {mg : Str → Option Value} {f : Addr} (X : K.In h) (G : h.Ns mainGlobals mg) (hfa : mg ("law" : Str) = some (.ref f)) (c : He.SaysD fa fn K) (hx : ex K = true) :
    ∃ fd : FuncData, (∀ (s : Shared) (v : Value), BindsTo s fd ⟨[v], []⟩ [("script", v)]) ∧ ∀ base : Heap, K.In base → base.Ns mainGlobals mg → FnOk P w K mg base CXn 231 f fd ["script"] (spLaw K) := by
  have T := tx_of X G c hx
  obtain ⟨fd_is_integer, F_is_integer⟩ := c.def_ 0 (d := d_is_integer) rfl
  have g_is_integer := He.glo_ok X G (c.fact 24 (f := .glo "is_integer") rfl)
  have B_is_integer : Binds K fd_is_integer ["data"] [] := F_is_integer.bindsN fun _ _ _ _ _ _ us hl => match us, hl with | [_], _ => rfl
  obtain ⟨fd_low_octets, F_low_octets⟩ := c.def_ 1 (d := d_low_octets) rfl
  have g_low_octets := He.glo_ok X G (c.fact 25 (f := .glo "low_octets") rfl)
  have B_low_octets : Binds K fd_low_octets ["number", "count"] [] := F_low_octets.bindsN fun _ _ _ _ _ _ us hl => match us, hl with | [_, _], _ => rfl
  obtain ⟨fd_number_of, F_number_of⟩ := c.def_ 2 (d := d_number_of) rfl
  have g_number_of := He.glo_ok X G (c.fact 26 (f := .glo "number_of") rfl)
  have B_number_of : Binds K fd_number_of ["octets"] [] := F_number_of.bindsN fun _ _ _ _ _ _ us hl => match us, hl with | [_], _ => rfl
  obtain ⟨fd_size_octets, F_size_octets⟩ := c.def_ 3 (d := d_size_octets) rfl
  have g_size_octets := He.glo_ok X G (c.fact 27 (f := .glo "size_octets") rfl)
  have B_size_octets : Binds K fd_size_octets ["number"] [] := F_size_octets.bindsN fun _ _ _ _ _ _ us hl => match us, hl with | [_], _ => rfl
  obtain ⟨fd_pack_plain, F_pack_plain⟩ := c.def_ 4 (d := d_pack_plain) rfl
  have g_pack_plain := He.glo_ok X G (c.fact 28 (f := .glo "pack_plain") rfl)
  have B_pack_plain : Binds K fd_pack_plain ["data"] [] := F_pack_plain.bindsN fun _ _ _ _ _ _ us hl => match us, hl with | [_], _ => rfl
  obtain ⟨fd_pack, F_pack⟩ := c.def_ 5 (d := d_pack) rfl
  have g_pack := He.glo_ok X G (c.fact 29 (f := .glo "pack") rfl)
  have B_pack : Binds K fd_pack ["data"] [] := F_pack.bindsN fun _ _ _ _ _ _ us hl => match us, hl with | [_], _ => rfl
  obtain ⟨fd_need, F_need⟩ := c.def_ 6 (d := d_need) rfl
  have g_need := He.glo_ok X G (c.fact 30 (f := .glo "need") rfl)
  have B_need : Binds K fd_need ["octets", "at", "count"] [] := F_need.bindsN fun _ _ _ _ _ _ us hl => match us, hl with | [_, _, _], _ => rfl
  obtain ⟨fd_unpack_number, F_unpack_number⟩ := c.def_ 7 (d := d_unpack_number) rfl
  have g_unpack_number := He.glo_ok X G (c.fact 31 (f := .glo "unpack_number") rfl)
  have B_unpack_number : Binds K fd_unpack_number ["octets", "at"] [] := F_unpack_number.bindsN fun _ _ _ _ _ _ us hl => match us, hl with | [_, _], _ => rfl
  obtain ⟨fd_sign_of, F_sign_of⟩ := c.def_ 8 (d := d_sign_of) rfl
  have g_sign_of := He.glo_ok X G (c.fact 32 (f := .glo "sign_of") rfl)
  have B_sign_of : Binds K fd_sign_of ["code"] [] := F_sign_of.bindsN fun _ _ _ _ _ _ us hl => match us, hl with | [_], _ => rfl
  obtain ⟨fd_unpack_text, F_unpack_text⟩ := c.def_ 9 (d := d_unpack_text) rfl
  have g_unpack_text := He.glo_ok X G (c.fact 33 (f := .glo "unpack_text") rfl)
  have B_unpack_text : Binds K fd_unpack_text ["octets", "at"] [] := F_unpack_text.bindsN fun _ _ _ _ _ _ us hl => match us, hl with | [_, _], _ => rfl
  obtain ⟨fd_unpack_plain, F_unpack_plain⟩ := c.def_ 10 (d := d_unpack_plain) rfl
  have g_unpack_plain := He.glo_ok X G (c.fact 34 (f := .glo "unpack_plain") rfl)
  have B_unpack_plain : Binds K fd_unpack_plain ["octets", "at"] [] := F_unpack_plain.bindsN fun _ _ _ _ _ _ us hl => match us, hl with | [_, _], _ => rfl
  obtain ⟨fd_unpack, F_unpack⟩ := c.def_ 11 (d := d_unpack) rfl
  have g_unpack := He.glo_ok X G (c.fact 35 (f := .glo "unpack") rfl)
  have B_unpack : Binds K fd_unpack ["octets"] [] := F_unpack.bindsN fun _ _ _ _ _ _ us hl => match us, hl with | [_], _ => rfl
  obtain ⟨fd_law_number, F_law_number⟩ := c.def_ 12 (d := d_law_number) rfl
  have g_law_number := He.glo_ok X G (c.fact 36 (f := .glo "_law_number") rfl)
  have B_law_number : Binds K fd_law_number ["script", "k"] [] := F_law_number.bindsN fun _ _ _ _ _ _ us hl => match us, hl with | [_, _], _ => rfl
  obtain ⟨fd_law_take, F_law_take⟩ := c.def_ 13 (d := d_law_take) rfl
  have g_law_take := He.glo_ok X G (c.fact 37 (f := .glo "_law_take") rfl)
  have B_law_take : Binds K fd_law_take ["box", "size"] [] := F_law_take.bindsN fun _ _ _ _ _ _ us hl => match us, hl with | [_, _], _ => rfl
  obtain ⟨fd_law_low, F_law_low⟩ := c.def_ 14 (d := d_law_low) rfl
  have g_law_low := He.glo_ok X G (c.fact 38 (f := .glo "_law_low") rfl)
  have B_law_low : Binds K fd_law_low ["number", "count"] [] := F_law_low.bindsN fun _ _ _ _ _ _ us hl => match us, hl with | [_, _], _ => rfl
  obtain ⟨fd_law_pack, F_law_pack⟩ := c.def_ 15 (d := d_law_pack) rfl
  have g_law_pack := He.glo_ok X G (c.fact 39 (f := .glo "_law_pack") rfl)
  have B_law_pack : Binds K fd_law_pack ["data"] [] := F_law_pack.bindsN fun _ _ _ _ _ _ us hl => match us, hl with | [_], _ => rfl
  obtain ⟨fd_law_plain, F_law_plain⟩ := c.def_ 16 (d := d_law_plain) rfl
  have g_law_plain := He.glo_ok X G (c.fact 40 (f := .glo "_law_plain") rfl)
  have B_law_plain : Binds K fd_law_plain ["box"] [] := F_law_plain.bindsN fun _ _ _ _ _ _ us hl => match us, hl with | [_], _ => rfl
  obtain ⟨fd_law_deep, F_law_deep⟩ := c.def_ 17 (d := d_law_deep) rfl
  have g_law_deep := He.glo_ok X G (c.fact 41 (f := .glo "_law_deep") rfl)
  have B_law_deep : Binds K fd_law_deep ["number", "depth"] [] := F_law_deep.bindsN fun _ _ _ _ _ _ us hl => match us, hl with | [_, _], _ => rfl
  obtain ⟨fd_law_other, F_law_other⟩ := c.def_ 18 (d := d_law_other) rfl
  have g_law_other := He.glo_ok X G (c.fact 42 (f := .glo "_law_other") rfl)
  have B_law_other : Binds K fd_law_other ["octets", "box"] [] := F_law_other.bindsN fun _ _ _ _ _ _ us hl => match us, hl with | [_, _], _ => rfl
  obtain ⟨fd_law_fits, F_law_fits⟩ := c.def_ 19 (d := d_law_fits) rfl
  have g_law_fits := He.glo_ok X G (c.fact 43 (f := .glo "_law_fits") rfl)
  have B_law_fits : Binds K fd_law_fits ["octets"] [] := F_law_fits.bindsN fun _ _ _ _ _ _ us hl => match us, hl with | [_], _ => rfl
  obtain ⟨fd_law_is_deep, F_law_is_deep⟩ := c.def_ 20 (d := d_law_is_deep) rfl
  have g_law_is_deep := He.glo_ok X G (c.fact 44 (f := .glo "_law_is_deep") rfl)
  have B_law_is_deep : Binds K fd_law_is_deep ["data", "octets"] [] := F_law_is_deep.bindsN fun _ _ _ _ _ _ us hl => match us, hl with | [_, _], _ => rfl
  obtain ⟨fd_law, F_law⟩ := c.def_ 21 (d := d_law) rfl
  have g_law := He.glo_ok X G (c.fact 45 (f := .glo "law") rfl)
  have B_law : Binds K fd_law ["script"] [] := F_law.bindsN fun _ _ _ _ _ _ us hl => match us, hl with | [_], _ => rfl
  have e := hfa.symm.trans g_law
  cases e
  have b := FunD.bindsA (ps := ["script"]) F_law fun _ _ _ _ _ _ us hl => match us, hl with | [_], _ => rfl
  refine ⟨fd_law, fun s v => b s [v] rfl, fun base _ _ => ?_⟩
  have G_is_integer : Fn P w K mg base 1 "is_integer" (spIsI K) := ⟨_, _, _, ok_is_integer T F_is_integer, g_is_integer, F_is_integer.kp, B_is_integer⟩
  have G_low_octets : Fn P w K mg base 1 "low_octets" spLow := ⟨_, _, _, ok_low_octets T F_low_octets, g_low_octets, F_low_octets.kp, B_low_octets⟩
  have G_number_of : Fn P w K mg base 1 "number_of" (spNum K) := ⟨_, _, _, ok_number_of T F_number_of, g_number_of, F_number_of.kp, B_number_of⟩
  have G_size_octets : Fn P w K mg base 1 "size_octets" spSize := ⟨_, _, _, ok_size_octets T F_size_octets, g_size_octets, F_size_octets.kp, B_size_octets⟩
  have G_need : Fn P w K mg base 1 "need" (spNeed K) := ⟨_, _, _, ok_need T F_need, g_need, F_need.kp, B_need⟩
  have G_sign_of : Fn P w K mg base 1 "sign_of" spSign := ⟨_, _, _, ok_sign_of T F_sign_of, g_sign_of, F_sign_of.kp, B_sign_of⟩
  have G_pack_plain : Fn P w K mg base 2 "pack_plain" (spPlainO K) := ⟨_, _, _, ok_pack_plain T F_pack_plain G_is_integer G_low_octets G_size_octets, g_pack_plain, F_pack_plain.kp, B_pack_plain⟩
  have G_pack : Fn P w K mg base 3 "pack" (spPack K) := ⟨_, _, _, ok_pack T F_pack G_low_octets G_pack_plain, g_pack, F_pack.kp, B_pack⟩
  have G_unpack_number : Fn P w K mg base 2 "unpack_number" (spUNum K) := ⟨_, _, _, ok_unpack_number T F_unpack_number G_need G_number_of, g_unpack_number, F_unpack_number.kp, B_unpack_number⟩
  have G_unpack_text : Fn P w K mg base 2 "unpack_text" (spUText K) := ⟨_, _, _, ok_unpack_text T F_unpack_text G_need G_number_of G_sign_of, g_unpack_text, F_unpack_text.kp, B_unpack_text⟩
  have G_unpack_plain : Fn P w K mg base 3 "unpack_plain" (spUPlain K) := ⟨_, _, _, ok_unpack_plain T F_unpack_plain G_need G_unpack_number G_unpack_text, g_unpack_plain, F_unpack_plain.kp, B_unpack_plain⟩
  have G_unpack : Fn P w K mg base 4 "unpack" (spUnpack K) := ⟨_, _, _, ok_unpack T F_unpack G_need G_number_of G_unpack_plain, g_unpack, F_unpack.kp, B_unpack⟩
  have G_law_number : Fn P w K mg base 1 "_law_number" (spNumber K) := ⟨_, _, _, ok_law_number T F_law_number, g_law_number, F_law_number.kp, B_law_number⟩
  have G_law_take : Fn P w K mg base 1 "_law_take" spTake := ⟨_, _, _, ok_law_take T F_law_take, g_law_take, F_law_take.kp, B_law_take⟩
  have G_law_low : Fn P w K mg base 1 "_law_low" spLow := ⟨_, _, _, ok_law_low T F_law_low, g_law_low, F_law_low.kp, B_law_low⟩
  have G_law_pack : Fn P w K mg base 643 "_law_pack" (spLPack K 641) := ⟨_, _, _, ok_law_pack T F_law_pack g_law_pack F_law_pack.kp B_law_pack G_law_low 641, g_law_pack, F_law_pack.kp, B_law_pack⟩
  have G_law_plain : Fn P w K mg base 2 "_law_plain" (spLPlain K) := ⟨_, _, _, ok_law_plain T F_law_plain G_law_take, g_law_plain, F_law_plain.kp, B_law_plain⟩
  have G_law_deep : Fn P w K mg base 7 "_law_deep" (spLDeep K 4) := ⟨_, _, _, ok_law_deep T F_law_deep g_law_deep F_law_deep.kp B_law_deep G_law_take G_law_number G_law_plain 4, g_law_deep, F_law_deep.kp, B_law_deep⟩
  have G_law_other : Fn P w K mg base 2 "_law_other" (spLOther K) := ⟨_, _, _, ok_law_other T F_law_other G_law_take, g_law_other, F_law_other.kp, B_law_other⟩
  have G_law_fits : Fn P w K mg base 644 "_law_fits" (spLFits K) := ⟨_, _, _, ok_law_fits T F_law_fits G_unpack G_law_pack, g_law_fits, F_law_fits.kp, B_law_fits⟩
  have G_law_is_deep : Fn P w K mg base 644 "_law_is_deep" (spLIsD K) := ⟨_, _, _, ok_law_is_deep T F_law_is_deep G_unpack G_law_pack, g_law_is_deep, F_law_is_deep.kp, B_law_is_deep⟩
  exact quiet ((ok_law T F_law G_law_number G_law_deep G_pack G_law_pack G_law_is_deep G_law_other G_law_fits).mono (by decide)).law fun _ _ _ _ h => h
end K47

namespace K47
open PySem PySem.Spec PyProof.Rows L2 Hf
abbrev R : PySem.W.OpenRow := PySem.W.OpenLaw.row PySem.Challenge.rw_herefrom_k47_packed_data_are_unpacked
abbrev hk : PySem.W.Hook := hookH 5 fa fn ex
def ob (s : PySem.W.SharedT) : AlH := obsH 5 fa fn ex (HandSHeadRun.getT s)
theorem ob_eq (s : PySem.W.SharedT) : ob s = hk.obs s.abs := obsH_eq (HandSHeadRun.getT_eq s)
theorem run (w : World) : HandSHeadRun.RunEq R (PySem.W.view R.prog [35]) hk ob 4000 names w := by
  intro os
  kernel_rfl
end K47
open PySem PySem.W PySem.Calls PyProof.Rows
theorem PySem.Challenge.cw_herefrom_k47_packed_data_are_unpacked_holds : PySem.Challenge.rw_herefrom_k47_packed_data_are_unpacked.Holds := by
  w_on; o_law
  refine HandSHeadRun.head_any (r := OpenLaw.row PySem.Challenge.rw_herefrom_k47_packed_data_are_unpacked) (q := view (OpenLaw.row PySem.Challenge.rw_herefrom_k47_packed_data_are_unpacked).prog [35]) (H := K47.hk) (ob := K47.ob) (M := 4000) (loose := K47.names) (d := HandSHeadRun.topDef (OpenLaw.row PySem.Challenge.rw_herefrom_k47_packed_data_are_unpacked).prog 35) (kwd := []) K47.ob_eq
    (by kernel_rfl) (fun s => by kernel_rfl) K47.run (by kernel_rfl) (by kernel_rfl) (by kernel_rfl) (by rfl) (by first | assumption | decide +kernel) (by decide +kernel) ⟨rfl, rfl, rfl, rfl, rfl, by decide +kernel⟩ ?hw ?hc
  case hw => w_witness2
  case hc =>
    refine L2.walk_ofE (l := PySem.Challenge.rw_herefrom_k47_packed_data_are_unpacked) (n := 63) (k := 231) (x := "script") (CX := Hf.CXn) rfl (by decide) (by kernel_rfl) ⟨rfl, by decide, by decide⟩ ?F (fun _ _ _ _ z => z)
    intro w mg fa h Y G hmg0
    obtain ⟨K, KX, c, hx⟩ := Y
    have hmg : mg ("law" : PySem.Str) = some (.ref fa) := by
      have e : (HandSHeadRun.topDef (OpenLaw.row PySem.Challenge.rw_herefrom_k47_packed_data_are_unpacked).prog 35).name = ("law" : PySem.Str) := by kernel_rfl
      rw [← e]
      exact hmg0
    obtain ⟨fd, hb, hF⟩ := K47.facts (P := (PySem.Challenge.rw_herefrom_k47_packed_data_are_unpacked).prog) (w := w) KX G hmg c hx
    exact ⟨K, fd, K47.spLaw K, KX, hb, fun H a ns hl _ hS => ⟨a, ns, rfl, hS, fun _ => rfl⟩, hF⟩
