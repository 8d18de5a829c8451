import PyProof.Rows.All
import Wide.All
import OpenK.AllK
import Wide.FinOn
import PyProof.ReprRoads
import KE.KStateDown
import HandS.ForMost
import HandS.Exc
import HandS.ExcInit
import HandS.ExcIs
import HandS.Defaults
import HandS.Head0
import HandS.Head1
import HandS.Head2
import HandS.HeadEnd
import HandS.HeadHook1
import HandS.HeadHook2
import KE.KExcInit
import HandS.ExcValue
import HandS.MakeKw
import HandS.Walk
import PySem.Challenge.RW_rungladders_k01_constants_and_errors
set_option Elab.async false
set_option linter.all false
set_option maxRecDepth 100000
set_option maxHeartbeats 4000000
/-! RGa: calls whose frames keep no guard (repr of lists asks for it); a head's facts by any Bool. -/
namespace RG
open PySem PySem.Spec PyProof.Rows L2

/-! ### a def that may ask for repr: its promise where no guard is laid -/
structure FnG (P : Program) (w : World) (K : PySem.W.Frag) (mg : Str → Option Value) (base : Heap) (CX : CXT) (k : Nat) (f : Addr) (fd : FuncData) (ps : List Str) (sp : Sp) : Prop where
  len : ∀ vs H Q E, sp vs H Q E → vs.length = ps.length
  run : ∀ (A : Around) (outer : List Env) (s : Shared) (H : Hp) (args : Args) (us : List Value) (vs : List V) (Q : VK) (E : XK),
    A.guards = some [] → Room k A → Env0 P w K mg base A outer s H → BindsTo s fd args (ps.zip us) → Vals vs us → sp vs H Q E →
    codeAny (model P w) A (.call (.ref f) args) (CR CX outer P w H s Q E) s
section
variable {P : Program} {w : World} {K : PySem.W.Frag} {mg : Str → Option Value} {base : Heap} {CX : CXT} {k : Nat} {f : Addr} {fd : FuncData} {ps : List Str} {sp : Sp}
theorem FnG.of (F : FnOk P w K mg base CX k f fd ps sp) : FnG P w K mg base CX k f fd ps sp :=
  ⟨F.len, fun A outer s H args us vs Q E _ => F.run A outer s H args us vs Q E⟩
theorem FnG.mono {j : Nat} (F : FnG P w K mg base CX j f fd ps sp) (h : j ≤ k) : FnG P w K mg base CX k f fd ps sp :=
  ⟨F.len, fun A outer s H args us vs Q E hg hr => F.run A outer s H args us vs Q E hg (hr.mono h)⟩
theorem deeper_guards {A : Around} {env : Env} (h : A.guards = some []) : (A.deeper env).guards = some [] := h
/-- the rule for such a def, by its body -/
theorem okG {x qual : Str} {params : Arguments} {body : List Stmt} {scope : Scope} {dvs : List V} {kws : List (Str × V)} {N : List Str}
    (F : FunD K x qual params body scope dvs kws f fd) (S : FnScope N ps scope) (len : ∀ vs H Q E, sp vs H Q E → vs.length = ps.length)
    (hb : ∀ (cdv : Value) (A : Around) (outer : List Env) (s : Shared) (H : Hp) (vs : List V) (Q : VK) (E : XK), A.guards = some [] →
      Room k (A.deeper (envOfC qual scope s.heap.objs.size f cdv)) → sp vs H Q E →
      ∃ t, PSs (cxOf CX P w K mg base N qual scope f cdv A outer s H E) body t ∧ t { nx := fun _ H' => Q .non H', rt := Q } (start N vs) H) :
    FnG P w K mg base CX (k + 1) f fd ps sp := by
  obtain ⟨oc, od, dV, kV, doc, pm, an, cdv, ct, osl, rfl, lk, hcd, _, _⟩ := F.ex
  refine ⟨len, fun A outer s H args us vs Q E hg hroom env0 hbinds hvals hsp => ?_⟩
  have hl : vs.length = ps.length := len _ _ _ _ hsp
  have inK : K.In s.heap := env0.mod.kin.keeps fun b o e => (env0.bs b o e).1
  have noLim : s.heap.NoLimit := env0.mod.nolimit.keeps fun b o e => (env0.bs b o e).1
  have kinds : ∀ y ∈ ps.zip us, scope.names.lookup y.1 = some .local ∨ (scope.names.lookup y.1 = some .cell ∧
      ((cellsFrom (s.heap.objs.size + 1) scope.names []).lookup y.1).isSome = true) := by
    rintro ⟨nm, v⟩ hy
    have hmem : nm ∈ ps := (List.of_mem_zip hy).1
    rcases S.par nm hmem with q | q
    · exact Or.inl q
    · exact Or.inr ⟨q, PySem.W.cellsFrom_some _ _ _ (Or.inl q)⟩
  refine codeAny_call_function hroom.depth (inK _ _ lk) rfl S.co S.gen rfl (PySem.W.codeRec_of inK hcd) (hbinds _ _ _ _ ?_)
  refine wpAny_newFunctionEnv_cells S.kind kinds fun env he s1 x => ?_
  subst he
  refine ⟨noLim.keeps x.toInCall.keep, codeAny_func ?_⟩
  obtain ⟨t, ht, hq⟩ := hb cdv A outer s H vs Q E hg (hroom.deeper _) hsp
  have I0 : Inv (cxOf CX P w K mg base N qual scope f cdv A outer s H E) [] (start N vs) H s1 := inv_start S hroom.hd env0 hl hvals x
  refine wpAny_mono (ht.run [] s1 (start N vs) H _ I0 hq) (fun fl s' hs => ?_) fun e s' hs => hs
  cases fl with
  | ret u =>
    obtain ⟨v, σ', H', J, rv, q⟩ := hs
    exact ⟨v, H', J.os, J.bare, J.base, J.hok, rv, q⟩
  | next =>
    obtain ⟨σ', H', J, q⟩ := hs
    exact ⟨V.non, H', J.os, J.bare, J.base, J.hok, rfl, q⟩
  | brk => exact hs.elim fun _ z => z.elim fun _ z => z.2.elim
  | cont => exact hs.elim fun _ z => z.elim fun _ z => z.2.elim
end
section
variable {X : Cx} {CX : CXT} {k : Nat} {f : Addr} {fd : FuncData} {ps : List Str} {sp : Sp} {dvs : List V} {ds : List Value} {E : XK} {x : Str} {p pos : Pos} {e : Expr} {es : List Expr} {t : TA}
theorem runG {pins : List (Addr × Obj)} {σ : L2.St} {H : Hp} {s : Shared} {Q : VK} {us : List Value} {vs : List V} (F : FnG X.prog X.w X.K X.mg X.base CX k f fd ps sp) (hg : X.A.guards = some []) (hr : Room k X.A)
    (hb : Binds X.K fd ps ds) (hd : Vals dvs ds) (hx : Passes CX X E) (I : Inv X pins σ H s) (r : Vals vs us) (h : sp (vs ++ dvs) H Q E) :
    wpAny (model X.prog X.w) X.A (call (.ref f) us) (EP X pins σ Q) X.xe s := by
  have rr : Vals (vs ++ dvs) (us ++ ds) := r.append hd
  have ll : (us ++ ds).length = ps.length := rr.length.symm.trans (F.len _ _ _ _ h)
  refine wpAny_call (codeAny_mono (F.run X.A X.stack s H ⟨us, []⟩ (us ++ ds) (vs ++ dvs) Q E hg hr I.env0 (hb s us I.kIn ll) rr h) fun res s' hq => ?_)
  match res, hq with
  | .error er, hq => exact hx pins σ H s er s' I hq
  | .ok (.ret u), hq => exact I.after hq
  | .ok .next, hq => exact hq.elim
  | .ok .brk, hq => exact hq.elim
  | .ok .cont, hq => exact hq.elim
theorem pe_callG (F : FnG X.prog X.w X.K X.mg X.base CX k f fd ps sp) (hgd : X.A.guards = some []) (hr : Room k X.A) (hg : Gl X x) (hm : X.mg x = some (.ref f)) (hk : PySem.W.keepIn X.K (.ref f) = true) (hb : Binds X.K fd ps ds)
    (hd : Vals dvs ds) (hx : Passes CX X E) (ha : PA X (e :: es) t) (hdb : (x == ("__debug__" : Str)) = false := by decide)
    (he : starEach (e :: es) X.env = (false, eval e X.env) :: starEach es X.env := by rfl) (hpl : (backTo pos (starEach es X.env)).any (·.1) = false := by rfl) :
    PE X (.Call (.Name x p) (e :: es) [] pos) (tCall sp dvs E t) := by
  constructor
  intro pins s σ H Q I h
  refine wpAny_Call_Name_kw (ld_glob I hg hm ?_ hdb)
  refine PySem.W.callWith_K (h₀ := X.base) I.ok.mod.kin hk (thn (ha.run pos pins s σ H _ I h) fun us s1 hh => ?_) he hpl
  obtain ⟨vs, H1, I1, r, q⟩ := hh
  exact ⟨I1.kIn, runG F hgd hr hb hd hx I1 r q⟩
end

/-! ### the law's end -/
theorem lawG {P : Program} {w : World} {K : PySem.W.Frag} {mg mb : Str → Option Value} {CX : CXT} {k : Nat} {fa a : Addr} {fd : FuncData} {x : Str} {sp : Sp} {s₁ : Shared} {vs : List Value} {ns : List Int}
    (KX : K.In s₁.heap) (hns : s₁.heap.Ns mainGlobals mg) (hb : s₁.heap.Ns builtinsNs mb) (hbb : ∀ x : Str, x ≠ "__name__" → mb x = bootBuiltins x) (hlim : s₁.heap.NoLimit) (hg : s₁.gens = #[])
    (ha : s₁.heap.get? a = some { cls := .type "list", data := .seq vs.toArray }) (hi : IntsAre vs ns) (hl : ns.length ≤ sizeLine) (hr : Room k callerA)
    (F : ∀ base : Heap, K.In base → base.Ns mainGlobals mg → FnG P w K mg base CX k fa fd [x] sp) (hbind : ∀ (s : Shared) (u : Value), BindsTo s fd ⟨[u], []⟩ [(x, u)])
    (hsp : ∀ H : Hp, Only H → SqL K H a (ns.map V.int) → sp [.ref a] H (fun v _ => v = .bl true) fun _ _ _ => False)
    (hCX : ∀ H e s', CX [] H s₁ (fun _ _ _ => False) e s' → False) :
    codeAny (model P w) callerA (.call (.ref fa) ⟨[.ref a], []⟩) (fun r s' => r = .ok (.ret (.bool true)) ∧ OldK s₁.heap s'.heap ∧ s'.os = s₁.os ∧ AllBare s'.gens) s₁ := by
  have rv := vals_ints hi
  have core : ∀ H : Hp, Only H → SqL K H a (ns.map V.int) → HOk P w H s₁.heap → (∀ b, H b ≠ none → b = a) → (H a ≠ none → K.lookup a = none) →
      codeAny (model P w) callerA (.call (.ref fa) ⟨[.ref a], []⟩) (fun r s' => r = .ok (.ret (.bool true)) ∧ OldK s₁.heap s'.heap ∧ s'.os = s₁.os ∧ AllBare s'.gens) s₁ := by
    intro H only hS hok only_a hK
    have at_a : ∀ {b : Addr} {u : HO}, H b = some u → b = a := fun {b u} e => only_a b (by rw [e]; exact fun z => nomatch z)
    have dicts : ∀ {b : Addr} {o : Obj} {es : Array DictEntry} {ep : Nat}, s₁.heap.get? b = some o → o.data = .dict es ep → H b = none := by
      intro b o es ep e d
      cases q : H b with
      | none => rfl
      | some u =>
        rw [at_a q, ha] at e
        cases e
        cases (show Data.seq vs.toArray _ = Data.dict es ep from d)
    have keepNs : ∀ {b : Addr} {m : Str → Option Value}, s₁.heap.Ns b m → (hidT s₁.heap H).Ns b m := by
      rintro b m ⟨o, es, ep, e, d, r⟩
      exact ⟨o, es, ep, hidT_get e (dicts e d), d, r⟩
    have inB : K.In (hidT s₁.heap H) := by
      intro b o e
      refine hidT_get (KX b o e) ?_
      cases q : H b with
      | none => rfl
      | some u =>
        have hba := at_a q
        rw [hba] at e q
        rw [hK (by rw [q]; exact fun z => nomatch z)] at e
        cases e
    have modl : Mod K mg (hidT s₁.heap H) := ⟨inB, keepNs hns, ⟨mb, keepNs hb, hbb⟩, hlim.elim fun mc z => ⟨mc, keepNs z.1, z.2⟩⟩
    have env0 : Env0 P w K mg (hidT s₁.heap H) callerA [] s₁ H :=
      ⟨rfl, modl, fun b o e => of_hidT e, Nat.le_of_eq (hidT_size _ _), trivial, fun b z => absurd z List.not_mem_nil, hok, .of_eq hg⟩
    refine codeAny_mono ((F _ inB (keepNs hns)).run callerA [] s₁ H ⟨[.ref a], []⟩ [.ref a] [.ref a] _ _ rfl hr env0 (hbind s₁ (.ref a)) (.cons rfl .nil) (hsp H only hS)) fun r s' h => ?_
    match r, h with
    | .error e, h => exact (hCX H e s' h).elim
    | .ok .next, h => exact h.elim
    | .ok .brk, h => exact h.elim
    | .ok .cont, h => exact h.elim
    | .ok (.ret u), h =>
      obtain ⟨v, H', os, bare, un, hok', r', q⟩ := h
      have ev : v = .bl true := q
      rw [ev] at r'
      obtain rfl : u = Value.bool true := r'
      refine ⟨rfl, OldK.of_keep fun b o e => ?_, os, bare⟩
      cases q2 : H b with
      | none => exact un.keep b o e q2 (fun z => absurd z List.not_mem_nil) List.not_mem_nil
      | some u2 =>
        rcases only b with z | ⟨ob, xs, z⟩
        · rw [q2] at z
          cases z
        · obtain ⟨e1, _⟩ := hok b _ z
          obtain ⟨e2, _⟩ := hok' b _ (un.frzs b ob _ z)
          exact (Option.some.inj (e.symm.trans e1)) ▸ e2
  cases hk : K.lookup a with
  | some o =>
    have e := KX a o hk
    rw [ha] at e
    cases e
    exact core (fun _ => none) (fun _ => .inl rfl) (.inr ⟨_, vs.toArray, _, hk, rfl, rfl, rfl, by rw [List.size_toArray, hi.length]; exact hl, by simpa using rv⟩) (fun b u z => nomatch (show (none : Option HO) = some u from z)) (fun b z => absurd rfl z) fun z => absurd rfl z
  | none =>
    have here : ∀ b u, (if b = a then some (HO.frz { cls := .type "list", data := .seq vs.toArray } (.lst (ns.map V.int))) else none) = some u → b = a := by
      intro b u z
      by_cases hb : b = a
      · exact hb
      · rw [if_neg hb] at z
        cases z
    refine core (fun b => if b = a then some (.frz { cls := .type "list", data := .seq vs.toArray } (.lst (ns.map V.int))) else none) (fun b => ?_) (.inl (.inr ⟨_, if_pos rfl⟩)) (fun b u z => ?_) (fun b z => ?_) fun _ => hk
    · by_cases hb : b = a
      · exact .inr ⟨_, _, if_pos hb⟩
      · exact .inl (if_neg hb)
    · have hb := here b u z
      subst hb
      have z2 := (if_pos rfl).symm.trans z
      cases z2
      exact ⟨ha, by rw [List.length_map]; exact hl, vs, _, rv, ha⟩
    · by_cases hb : b = a
      · exact hb
      · exact absurd (if_neg hb) z
theorem walkG {l : PySem.W.OpenLaw} {n k : Nat} {q : Program} {loose : List Str} {XP : (Str → Option Value) → Heap → Prop} {YP : World → Heap → Prop} {d : DefRec} {CX : CXT} {x : Str}
    (hn : l.most = some n) (hn2 : n ≤ sizeLine) (hdf : d.params.defaults = []) (hr : Room k callerA)
    (F : ∀ (w : World) (mg : Str → Option Value) (fa : Addr) (h : Heap), YP w h → h.Ns mainGlobals mg → mg d.name = some (.ref fa) →
      ∃ (K : PySem.W.Frag) (fd : FuncData) (sp : Sp), K.In h ∧ (∀ (s : Shared) (u : Value), BindsTo s fd ⟨[u], []⟩ [(x, u)]) ∧
        (∀ (H : Hp) (a : Addr) (ns : List Int), ns.length ≤ n → Only H → SqL K H a (ns.map V.int) → sp [.ref a] H (fun v _ => v = .bl true) fun _ _ _ => False) ∧
        ∀ base : Heap, K.In base → base.Ns mainGlobals mg → FnG l.prog w K mg base CX k fa fd [x] sp)
    (hCX : ∀ (H : Hp) (s : Shared) (e : Value) (s' : Shared), CX [] H s (fun _ _ _ => False) e s' → False) :
    PySem.W.WalkO q loose XP YP l.row.toRowW d [] (fun f vs => PySem.call f vs) := by
  refine Att.attach_call hn hdf fun w s₀ s₁ mg mb fa o pm cd doc a vs ns G Y ho hd hcd hmg hobj hints hlen hg => ?_
  obtain ⟨K, fd, sp, KX, hb, hsp, hF⟩ := F w mg fa _ Y G.T.g hmg
  exact lawG KX G.T.g G.T.b G.T.builtins G.T.nolimit hg hobj hints (Nat.le_trans hlen hn2) hr hF hb (fun H only hS => hsp H a ns hlen only hS) fun H e s' => hCX H s₁ e s'

/-! ### the head's facts: any Bool of the part that the module's names reach, and the defs -/
abbrev AlX : Type := Bool × List He.FnW
def obsX (n : Nat) (chk : PySem.W.Frag → Bool) (fn : List He.DefD) (g : Addr → Option Obj) : AlX :=
  let K := He.frG g (He.asD g n)
  (chk K && fn.all fun d => d.ok K, fn.map fun d => He.fnW K d.at_)
def SaysX (chk : PySem.W.Frag → Bool) (fn : List He.DefD) (K : PySem.W.Frag) : Prop := (chk K && fn.all fun d => d.ok K) = true ∧ (fn.map fun d => He.fnW K d.at_) = fn.map He.DefD.val
def hookX (n : Nat) (chk : PySem.W.Frag → Bool) (fn : List He.DefD) : PySem.W.Hook where
  α := AlX
  obs := fun s => obsX n chk fn s.heap.get?
  val := fun _ => (true, fn.map He.DefD.val)
  says := fun _ h => ∃ K : PySem.W.Frag, K.In h ∧ SaysX chk fn K
  of := fun _ _ e => ⟨_, He.frG_in, (Prod.ext_iff.mp e).1, (Prod.ext_iff.mp e).2⟩
  keeps := fun _ _ _ ⟨K, hK, c⟩ k => ⟨K, PySem.W.Frag.In.keeps hK k, c⟩
theorem obsX_eq {n : Nat} {chk : PySem.W.Frag → Bool} {fn : List He.DefD} (s : PySem.W.SharedT) : obsX n chk fn (HandSHeadRun.getT s) = (hookX n chk fn).obs s.abs := by
  have e : HandSHeadRun.getT s = s.abs.heap.get? := funext fun a => HandSHeadRun.getT_eq s a
  show obsX n chk fn (HandSHeadRun.getT s) = obsX n chk fn s.abs.heap.get?
  rw [e]
theorem SaysX.chk {chk : PySem.W.Frag → Bool} {fn : List He.DefD} {K : PySem.W.Frag} (c : SaysX chk fn K) : chk K = true := (Bool.and_eq_true_iff.mp c.1).1
/-- the function object at an address -/
def fdAt (K : PySem.W.Frag) (f : Addr) : FuncData := match K.lookup f with
  | some ⟨_, _, .func fd, _⟩ => fd
  | _ => PySem.W.fnOf "" "" ⟨[], [], none, [], [], none, []⟩ [] ⟨.function, [], false, false, []⟩ .none .none .none .none none .none .none
theorem SaysX.def_ {chk : PySem.W.Frag → Bool} {fn : List He.DefD} {K : PySem.W.Frag} (c : SaysX chk fn K) (i : Nat) {d : He.DefD} (h : fn[i]? = some d := by rfl) :
    FunD K d.name d.qual d.params d.body d.scope (d.dvs K) (d.kws K) (He.fAd K d.at_) (fdAt K (He.fAd K d.at_)) := by
  have c2 := (Bool.and_eq_true_iff.mp c.1).2
  have e2 : (fn.map fun d => He.fnW K d.at_)[i]? = (fn.map He.DefD.val)[i]? := by rw [c.2]
  rw [List.getElem?_map, List.getElem?_map, h] at e2
  obtain ⟨fd, F⟩ := He.DefD.funD (Option.some.inj e2) (List.all_eq_true.mp c2 d (List.mem_of_getElem? h))
  have e : fdAt K (He.fAd K d.at_) = fd := by
    obtain ⟨oc, od, dV, kV, doc, pm, an, cdv, ct, osl, e1, lk, _⟩ := F.ex
    unfold fdAt
    rw [lk]
  rw [e]
  exact F
/-- three looks at one run are one look -/
theorem join3 {α β γ δ : Type} {o : Option α} {f : α → β} {g : α → γ} {h : α → δ} {b : β} {c : γ} {d : δ} (h1 : o.map f = some b) (h2 : o.map g = some c) (h3 : o.map h = some d) : o.map (fun s => (f s, g s, h s)) = some (b, c, d) := by
  cases o with
  | none => cases h1
  | some s =>
    cases h1
    cases h2
    cases h3
    rfl
end RG

set_option Elab.async false
set_option linter.all false
set_option maxRecDepth 100000
set_option maxHeartbeats 4000000
/-! RGb: own exceptions as values, made by position and by keyword. -/
namespace RG
open PySem PySem.W PySem.Calls PyProof.Rows Builtin
section
variable {M : Model} {A : Around} {E : Value → Shared → Prop} {h : Heap} {g : Array GenState} {d : Drawn} {t : Nat} {os : OsState}
variable {nm q : Str} {C N : Addr} {bs bm bmB : List Value} {hdct : Bool} {sn : List Str} {sub : List Value} {ab : Bool} {col : Option Bool} {dd : Option Addr} {k0 k1 k2 k3 k5 : Option Value} {B newId initId : String}
theorem x_check_new (F : ExcBaseFacts B newId initId bmB) (hT : ∀ X : String, bm.contains (.type X) = bmB.contains (.type X)) {rest : List Value} {kw : List (Str × Value)} {Q : Unit → Shared → Prop}
    (hC : h.get? C = some (excClassObj nm q C N bs bm hdct sn sub ab col dd k0 k1 k2 k3 k5 newId)) (hq : Q () ⟨h, g, d, t, os⟩) : wpAny M A (checkBuiltinCall newId ⟨.ref C :: rest, kw⟩) Q E ⟨h, g, d, t, os⟩ := by
  have inB : (Value.ref C :: bm).contains (.type B) = true := by rw [List.contains_cons, hT, F.hasB, Bool.or_true]
  have nost := F.noStar
  simp only [checkBuiltinCall, F.newKind, F.newSplit, F.newRow]
  repeat (first | refine wpAny_loadPart_at hC ?_ | (refine wpAny_isSubtype_exc hC ?_; rw [inB]) | refine wpAny_staticBase_exc hC ?_ | refine wpAny_madeBy_exc hC ?_ | simp only [bne_self_eq_false, Bool.false_eq_true, if_false] | wp_step)
  exact hq
theorem x_check_tc {rest : List Value} {kw : List (Str × Value)} {Q : Unit → Shared → Prop} (hC : h.get? C = some (excClassObj nm q C N bs bm hdct sn sub ab col dd k0 k1 k2 k3 k5 newId))
    (hq : Q () ⟨h, g, d, t, os⟩) : wpAny M A (checkBuiltinCall "type.__call__" ⟨.ref C :: rest, kw⟩) Q E ⟨h, g, d, t, os⟩ := by
  have y3 := tc_sub
  have hTy : (⟨h, g, d, t, os⟩ : Shared).TypeIs (.ref C) "type" := ⟨_, hC, rfl⟩
  simp only [checkBuiltinCall, tc_kind, tc_split]
  repeat (any_goals (first | assumption | with_reducible refine wpAny_loadPart_at hC ?_ | with_reducible refine wpAny_onRaise ?_ | with_reducible refine wpAny_map ?_ | wp_step))
end
section
variable {prog : Program} {w : World} {A : Around} {E : Value → Shared → Prop} {R : Result → Shared → Prop} {h : Heap} {g : Array GenState} {d : Drawn} {t : Nat} {os : OsState}
variable {nm q : Str} {C N : Addr} {bs bm bmB : List Value} {hdct : Bool} {sn : List Str} {sub : List Value} {ab : Bool} {col : Option Bool} {dd : Option Addr} {k0 k1 k2 k3 k5 : Option Value} {B newId initId : String}
theorem x_new (F : ExcBaseFacts B newId initId bmB) (hT : ∀ X : String, bm.contains (.type X) = bmB.contains (.type X)) {rest : List Value} {kw : List (Str × Value)}
    (hC : h.get? C = some (excClassObj nm q C N bs bm hdct sn sub ab col dd k0 k1 k2 k3 k5 newId))
    (hq : R (.ok (.ret (.ref (h.objs.size + 1)))) ⟨(h.push (kdv_tup rest)).push (PySem.HandSPX.excO C h.objs.size), g, d, t, os⟩) (hrest : rest.length ≤ sizeLine) :
    codeAny (model prog w) A (.builtin newId ⟨.ref C :: rest, kw⟩) R ⟨h, g, d, t, os⟩ := by
  have y1 := F.ends
  have inB : (Value.ref C :: bm).contains (.type B) = true := by rw [List.contains_cons, hT, F.hasB, Bool.or_true]
  have inA : (Value.ref C :: bm).contains (.type "AttributeError") = false := by rw [List.contains_cons, hT, F.noAttr]; rfl
  have inN : (Value.ref C :: bm).contains (.type "NameError") = false := by rw [List.contains_cons, hT, F.noName]; rfl
  refine codeAny_builtinAt F.entry ?_
  unfold Builtin.«BaseException.__new__»
  refine PySem.wpAt_bind ?_
  show PySem.wpAt _ _ _ (stack >>= _) _ _ _
  refine PySem.wpAt_bind (PySem.wpAt_stack fun p below => PySem.wpAt_of_wpAny ?_)
  wp_walk
  refine PySem.wpAt_of_wpAny ?_
  rw [F.owner]
  repeat (first | with_reducible refine wpAny_madeHere_exc F.canon hC ?_ | with_reducible refine wpAny_loadPart_at hC ?_ | (with_reducible refine wpAny_isSubtype_exc hC ?_; first | rw [inB] | rw [inA] | rw [inN]) | wp_step)
  show R _ _
  rw [Heap.size_push]
  exact hq
theorem x_type_call (F : ExcBaseFacts B newId initId bmB) (hT : ∀ X : String, bm.contains (.type X) = bmB.contains (.type X)) {rest : List Value} {kw : List (Str × Value)} {fI : Addr} {Q : Fin → Shared → Prop}
    (hC : h.get? C = some (excClassObj nm q C N bs bm hdct sn sub ab col dd k0 k1 k2 k3 k5 newId))
    (hi : PySem.W.Looks (model prog w) h (typeLookup (.ref C) "__init__") (some (.ref fI))) (hb : ∀ self, PySem.W.Looks (model prog w) h (bindSpecial (.ref fI) self) (.ref fI, [self])) (hrest : rest.length ≤ sizeLine)
    (hq : codeAny (model prog w) A (.call (.ref fI) ⟨.ref (h.objs.size + 1) :: rest, kw⟩)
      (fun r s' => match r with | .ok (.ret v) => v = .none ∧ Q (.done (.ret (.ref (h.objs.size + 1)))) s' | .ok _ => False | .error e => E e s')
      ⟨(h.push (kdv_tup rest)).push (PySem.HandSPX.excO C h.objs.size), g, d, t, os⟩) :
    wpAny (model prog w) A (Builtin.«type.__call__» ⟨.ref C :: rest, kw⟩) Q E ⟨h, g, d, t, os⟩ := by
  repeat (first | with_reducible refine wpAny_loadPart_at hC ?_ | with_reducible refine wpAny_madeBy_exc hC ?_ | wp_step)
  refine codeAny_call_builtin_code (Code.quiet_builtin _ F.quiet) (x_check_new F hT hC ?_)
  refine x_new F hT hC ?_ hrest
  show wpAny _ _ _ _ _ _
  have kp : ∀ b o, h.get? b = some o → ((h.push (kdv_tup rest)).push (PySem.HandSPX.excO C h.objs.size)).get? b = some o := fun b o e => Heap.get?_push_of_some _ (Heap.get?_push_of_some _ e)
  have hC2 := kp _ _ hC
  have here : ((h.push (kdv_tup rest)).push (PySem.HandSPX.excO C h.objs.size)).get? (h.objs.size + 1) = some (PySem.HandSPX.excO C h.objs.size) := by heap_get
  have inC : (Value.ref C :: bm).contains (.ref C) = true := by simp
  have i1 := hi.keeps kp
  have b1 := (hb (.ref (h.objs.size + 1))).keeps kp
  unfold isInstance
  repeat (first | with_reducible refine wpAny_loadPart_at here ?_ | (with_reducible refine wpAny_isSubtype_exc hC2 ?_; rw [inC]) | wp_step)
  show wpAny _ _ (typeLookup (.ref C) _) _ _ _
  refine i1.at ?_
  refine wpAny_holding (wpAny_bind (b1.at ?_))
  refine wpAny_bind (wpAny_call (codeAny_mono hq fun r s' z => ?_))
  match r, z with
  | .error e, z => exact z
  | .ok .next, z => exact z.elim
  | .ok .brk, z => exact z.elim
  | .ok .cont, z => exact z.elim
  | .ok (.ret v), z =>
    obtain ⟨rfl, z⟩ := z
    first
      | exact wpAny_pure (wpAny_pure z)
      | (wp_walk; exact z)
/-- C(.., k = v, ..): an own exception class with its own __init__ -/
theorem x_call (F : ExcBaseFacts B newId initId bmB) (hT : ∀ X : String, bm.contains (.type X) = bmB.contains (.type X)) {rest : List Value} {kw : List (Str × Value)} {fI : Addr}
    (hC : h.get? C = some (excClassObj nm q C N bs bm hdct sn sub ab col dd k0 k1 k2 k3 k5 newId))
    (hi : PySem.W.Looks (model prog w) h (typeLookup (.ref C) "__init__") (some (.ref fI))) (hb : ∀ self, PySem.W.Looks (model prog w) h (bindSpecial (.ref fI) self) (.ref fI, [self])) (hrest : rest.length ≤ sizeLine)
    (hq : codeAny (model prog w) (A.under (.builtin "type.__call__" ⟨.ref C :: rest, kw⟩)) (.call (.ref fI) ⟨.ref (h.objs.size + 1) :: rest, kw⟩) (PySem.W.InitBack (h.objs.size + 1) R)
      ⟨(h.push (kdv_tup rest)).push (PySem.HandSPX.excO C h.objs.size), g, d, t, os⟩) :
    codeAny (model prog w) A (.call (.ref C) ⟨rest, kw⟩) R ⟨h, g, d, t, os⟩ := by
  have y1 := tc_lookup
  have y2 := tc_bind (.ref C)
  have hTy : (⟨h, g, d, t, os⟩ : Shared).TypeIs (.ref C) "type" := ⟨_, hC, rfl⟩
  refine codeAny_of_tree ?_
  show wpAny _ _ (callAny (.ref C) _) _ _ _
  repeat (any_goals (first | assumption | with_reducible refine wpAny_loadPart_at hC ?_ | wp_step))
  refine ⟨rfl, ?_⟩
  refine codeAny_call_builtin_at (Code.quiet_builtin _ (by decide +kernel)) entry_typeCall (x_check_tc hC (x_type_call F hT hC hi hb hrest ?_))
  refine codeAny_mono hq fun r s' z => ?_
  match r, z with
  | .error e, z => exact z
  | .ok .next, z => exact z
  | .ok .brk, z => exact z
  | .ok .cont, z => exact z
  | .ok (.ret v), z => exact z
end
end RG

set_option Elab.async false
set_option linter.all false
set_option maxRecDepth 100000
set_option maxHeartbeats 4000000
/-! RGc: an own exception as a tracked thing: its field stored, read, isinstance of it, its making. -/
namespace RG
open PySem PySem.Spec PyProof.Rows L2

/-- what the written part says of an own exception class over the built-in B -/
structure XC (K : PySem.W.Frag) (C : Addr) (B newId initId : String) (bmB : List Value) : Prop where
  FB : ExcBaseFacts B newId initId bmB
  SF : StoreFacts B bmB "object.__setattr__" "object"
  q : PySem.W.excInitIn K C bmB newId = true
  ov : PySem.W.excOver K C bmB = true
  sa : PySem.W.findIn K (.ref C) "__setattr__" = some (some (.builtin "object.__setattr__"))
  hd : PySem.W.hasDictIn K C = true
  kp : PySem.W.keepIn K (.ref C) = true
  ga : PySem.W.findIn K (.ref C) "__getattribute__" = some (some (.builtin "BaseException.__getattribute__"))
  gg : PySem.W.findIn K (.ref C) "__getattr__" = some none
  be : PySem.W.subIn K (.ref C) (.type "BaseException") = some true
  ha : PySem.W.findIn K (.ref C) "__class__" = some (some (.builtin "object.__class__"))
  hn : PySem.W.specialIn K (.builtin "object.__class__") "__get__" = some (some (.builtin "getset_descriptor.__get__"))
  ht : PySem.W.takesIn K (.builtin "object.__class__") = some true
  hm : PySem.W.mroIn K C (.type "object") = some true
  ty : PySem.W.typeIn K (.ref C) = some (.type "type")

section low
open PySem.W PySem.Calls Builtin Builtin.ObjectAttr
variable {prog : Program} {w : World} {A : Around} {E : Value → Shared → Prop} {R : Result → Shared → Prop} {hp : Heap} {g : Array GenState} {d : Drawn} {t : Nat} {os : OsState}
theorem clsIn_ex {K : Frag} {C : Addr} {f : ClassData → Bool} (h : (clsIn K C).any f = true) : ∃ cd, clsIn K C = some cd ∧ f cd = true := by
  cases e : clsIn K C with
  | none =>
    rw [e] at h
    cases h
  | some cd =>
    rw [e] at h
    exact ⟨cd, rfl, h⟩
/-- e.f = v on an exception that has no dict yet -/
theorem x_osa {K : Frag} {B newId initId : String} {bmB : List Value} {name : Str} {tk : Tok} {v : Value} {x C : Addr} {fv : Array Value} (T : XC K C B newId initId bmB)
    (X : K.In hp) (hx : hp.get? x = some { cls := .ref C, data := .fields fv }) (ha : findIn K (.ref C) name = some none)
    (hq : ∀ h' tk' dx, (∀ b o, b ≠ x → hp.get? b = some o → h'.get? b = some o) → hp.objs.size ≤ dx → dx ≠ x → h'.get? x = some { cls := .ref C, dict := some dx, data := .fields fv } →
      h'.Ns1 dx (fun y => if y = name then some v else none) → R (.ok (.ret .none)) ⟨h', g, d, tk', os⟩) :
    codeAny (model prog w) A (.call (.builtin "object.__setattr__") ⟨[.ref x, .str name tk, v], []⟩) R ⟨hp, g, d, t, os⟩ := by
  have I : InstAt hp x { cls := .ref C, data := .fields fv } C none := ⟨hx, rfl, rfl, trivial⟩
  obtain ⟨cd, hcd, hdict⟩ := clsIn_ex T.hd
  have xs : x ≠ hp.objs.size := Nat.ne_of_lt (Heap.lt_size hx)
  have tak : takerIn K C name = some none := by
    unfold takerIn
    rw [ha]
    rfl
  refine osa_openX (s := ⟨hp, g, d, t, os⟩) (r := none) T.SF X I T.ov tak fun b => ?_
  show wpAny _ _ (storeInOwnDict (.ref x) (.ref C) (.str name tk) name v b) _ _ _
  have Lc : Looks (model prog w) hp (classData C) cd := looks_clsIn X hcd
  obtain ⟨nm, bs, mro, ns, qn, hd, sn, sb, ab, col, del⟩ := cd
  dsimp only at hdict
  subst hdict
  unfold storeInOwnDict ownDictForStores
  repeat (first | with_reducible refine PySem.HandSPX.store_in_new ?_ ?_ | with_reducible refine wpAny_loadPart_at hx ?_ | with_reducible refine Lc.at ?_ | wp_step)
  · exact ⟨_, #[], _, (Heap.get?_update_ne _ _ _ _ xs.symm).trans (Heap.get?_push_at rfl rfl), rfl, fun e he => absurd he (by simp), fun _ => rfl⟩
  · intro h' tk' hn' hs
    have hx1 : (hp.push { cls := .type "dict", data := .dict #[] }).get? x = some { cls := .ref C, data := .fields fv } := Heap.get?_push_of_some _ hx
    refine hq h' tk' hp.objs.size (fun b o hb ho => ?_) (Nat.le_refl _) xs.symm ?_ hn'
    · exact (hs.2 b (Nat.ne_of_lt (Heap.lt_size ho))).trans ((Heap.get?_update_ne _ _ _ _ hb).trans (Heap.get?_push_of_some _ ho))
    · exact (hs.2 x xs).trans (Heap.get?_update_self _ hx1 rfl)
/-- the class of such an exception, asked as isinstance asks it -/
theorem x_classAsk {K : Frag} {B newId initId : String} {bmB : List Value} {s : Shared} {x C : Addr} {ox : Obj} {od : Option Obj} {Q : Option Value → Shared → Prop} (T : XC K C B newId initId bmB)
    (X : K.In s.heap) (I : InstAt s.heap x ox C od) (h : Q (some (.ref C)) { s with toks := s.toks + 1 }) : wpAny (model prog w) A (getAttr? (.ref x) "__class__") Q E s := by
  obtain ⟨cd, hcd, _⟩ := clsIn_ex T.hd
  have hf : findObj K C od "__class__" = some (.bind (.builtin "getset_descriptor.__get__") (.builtin "object.__class__")) := by
    unfold findObj
    rw [hcd, Option.bind_some, T.ha, Option.bind_some]
    simp [T.hn, T.ht]
  obtain ⟨hh, gg, dd, tt, oo⟩ := s
  have La := I.type (M := model prog w)
  have Lb := looks_findIn (M := model prog w) X T.ga
  have Ld := looks_findIn (M := model prog w) X T.gg
  have Le := looks_find (M := model prog w) X I hf
  have Ls : Looks (model prog w) hh (isInstance (.ref x) (.type "BaseException")) true := La.andThen (looks_subIn X T.be)
  have z2 : (Value.builtin "BaseException.__getattribute__" == Value.builtin "object.__getattribute__") = false := by decide +kernel
  have z1 : (onTheHeap (Value.ref C) && Value.builtin "BaseException.__getattribute__" == Value.builtin "object.__getattribute__") = false := by rw [z2]; rfl
  unfold getAttr? getAttrBy? getAttrBy
  refine wpAny_bind (wpAny_mkText (wpAny_bind (wpAny_attempt (wpAny_holding (wpAny_bind (La.at (wpAny_bind (Lb.at ?_))))))))
  show wpAny _ _ (if (onTheHeap (Value.ref C) && Value.builtin "BaseException.__getattribute__" == Value.builtin "object.__getattribute__") = true then _ else _) _ _ _
  rw [z1, if_neg Bool.false_ne_true]
  unfold getAttrByItsOwn hookBefore
  refine wpAny_bind ?_
  rw [if_pos (show onTheHeap (Value.ref C) = true from rfl)]
  refine Ld.at ?_
  refine wpAny_bind (wpAny_attempt (wpAny_holding ?_))
  unfold callGetattribute
  rw [show (false && onTheHeap (Value.builtin "BaseException.__getattribute__")) = false from rfl, if_neg Bool.false_ne_true]
  unfold boundAndCalled
  rw [PySem.F.excAttr_ValueError.ga.bind (.ref x)]
  refine wpAny_bind (wpAny_pure ?_)
  show wpAny _ _ (call (.builtin "BaseException.__getattribute__") [.ref x, .str "__class__" tt]) _ _ _
  refine wpAny_call (codeAny_call_builtin PySem.F.excAttr_ValueError.ga.plain PySem.F.entry_bexc_ga ?_)
  refine @check_slot (model prog w) _ _ ⟨hh, gg, dd, tt + 1, oo⟩ "BaseException.__getattribute__" "BaseException" "__getattribute__" (.ref x) [.str "__class__" tt] [] _ (by decide +kernel) (by decide +kernel) Ls (PySem.F.args_bexc_ga (.ref x) (.str "__class__" tt)) ?_
  unfold Builtin.«object.__getattribute__»
  refine wpAny_bind (wpAny_of_eq (a := ((Value.ref x : Value), [Value.str "__class__" tt])) (by first | rfl | (simp only [slotArgs]; rfl)) ?_)
  refine wpAny_bind (wpAny_pure (wpAny_bind (La.at (wpAny_bind (Le.at ?_)))))
  show wpAny _ _ (holding [Value.builtin "object.__class__"] (call (.builtin "getset_descriptor.__get__") [.builtin "object.__class__", .ref x, .ref C]) >>= ret) _ _ _
  refine wpAny_bind (wpAny_holding (wpAny_call (class_get (s := ⟨hh, gg, dd, tt + 1, oo⟩) (ox := ox) (od := od) X I T.hm ?_)))
  refine wpAny_pure ?_
  show wpAny _ _ (handedOut (.ref C)) _ _ _
  rw [handedOut_of (v := .ref C) rfl]
  first
    | exact wpAny_pure (wpAny_pure h)
    | exact wpAny_pure h
    | exact wpAny_pure (wpAny_bind (wpAny_pure (wpAny_pure h)))
theorem x_kit {K : Frag} {B newId initId : String} {bmB : List Value} {x C : Addr} {ox : Obj} {od : Option Obj} (T : XC K C B newId initId bmB) : KitX K (.ref x) (.ref C) (fun h => InstAt h x ox C od) where
  ty := fun _ _ _ I => I.type
  it := fun _ _ X _ => by
    obtain ⟨cd, hcd, _⟩ := clsIn_ex T.hd
    unfold clsIn at hcd
    split at hcd
    · rename_i c' d' cd' sl' ho
      intro A' Q' E' s' k q
      unfold isType loadHead
      exact wpAny_bind (wpAny_loadPart (k _ _ (X _ _ ho)) (wpAny_pure q))
    · cases hcd
  ne := fun h tp dd its n sl X htp => by
    obtain ⟨cd, hcd, _⟩ := clsIn_ex T.hd
    refine Bool.eq_false_iff.mpr fun q => ?_
    have e : C = tp := Value.ref.inj (beq_iff_eq.mp q)
    rw [← e] at htp
    unfold clsIn at hcd
    split at hcd
    · rename_i c' d' cd' sl' ho
      cases (X _ _ ho).symm.trans htp
    · cases hcd
  ca := fun X I k => x_classAsk T X I k
end low

/-! ### the rules -/
/-- at e stands an exception of the class at C, its dict none yet | at dx, holding fs -/
def XV (H : Hp) (e C dx : Addr) (fs : List (Str × V)) : Prop := H e = some (exo e C (some dx)) ∧ H dx = some (exd dx fs)
section
variable {X : Cx} {pins : List (Addr × Obj)} {σ : L2.St} {H : Hp} {s : Shared} {a C dx : Addr} {f : Str} {y : V} {u : Value} {fs : List (Str × V)} {A : Around} {B newId initId : String} {bmB : List Value} {E : Value → Shared → Prop}
/-- self.f = y, the first field -/
theorem xset_ok {Q : Unit → Shared → Prop} (T : XC X.K C B newId initId bmB) (I : Inv X pins σ H s) (e : H a = some (exo a C none)) (hno : PySem.W.findIn X.K (.ref C) f = some none) (ry : RelV y u)
    (h : ∀ dx s', H dx = none → dx ≠ a → Inv X pins σ (upd (upd H dx (exd dx [(f, y)])) a (exo a C (some dx))) s' → Q () s') : wpAny (model X.prog X.w) A (setAttr (.ref a) f u) Q E s := by
  obtain ⟨t1, ho⟩ := exo_at I.hok e
  obtain ⟨hp, g, d, t, os⟩ := s
  refine PySem.W.set_plain I.kIn (ox := { cls := .ref C, dict := none, data := .fields #[.ref t1, .none, .none, .none, .bool false, .none] }) (od := none) ⟨ho, rfl, rfl, trivial⟩ T.sa ?_
  refine x_osa T I.kIn ho hno (fun h' tk' dx k dn dne hx hn => ?_)
  have hnd : H dx = none := I.hok.fresh dn
  have nd : ∀ {b : Addr} {o : Obj}, hp.get? b = some o → b ≠ dx := fun {b o} q => Nat.ne_of_lt (Nat.lt_of_lt_of_le (Heap.lt_size q) dn)
  have na : ∀ {b : Addr}, H b = none → b ≠ a := fun {b} n z => by
    rw [z, e] at n
    cases n
  have u1 : Un X.fs [] H (upd (upd H dx (exd dx [(f, y)])) a (exo a C (some dx))) hp h' := by
    constructor
    · exact fun b o q n _ _ => k b o (na n) q
    · exact fun b o q n _ _ => ⟨o.slots, k b o (na n) q⟩
    · intro b o q n _
      rw [upd_ne (na n), upd_ne (nd q)]
      exact n
    · intro b o q _
      by_cases hb : b = a
      · exact ⟨_, hb ▸ hx⟩
      · exact ⟨o, k b o hb q⟩
    · intro b xs q
      rw [upd_ne (at_ne e q exo_tup), upd_ne (ne_of_none q hnd)]
      exact q
    · intro b o v q
      rw [upd_ne (at_ne e q exo_frz), upd_ne (ne_of_none q hnd)]
      exact q
    · intro b ps q
      refine ⟨#[], ?_⟩
      rw [upd_ne (at_ne e q exo_tbl), upd_ne (ne_of_none q hnd), q]
      simp
  refine h dx _ hnd dne (I.un (t' := tk') u1 fun b o q => ?_)
  by_cases hb : b = a
  · subst hb
    rw [upd_same] at q
    cases q
    exact exo_ok hx
  · rw [upd_ne hb] at q
    by_cases hd : b = dx
    · subst hd
      rw [upd_same] at q
      cases q
      exact exd_ok hn (relO_put (fs := []) ry fun g => True.intro)
    · rw [upd_ne hd] at q
      refine (I.hok b o q).stay (fun c v hc z => k c v ?_ z) (fun c hc => ?_) (fun c xs hc => ?_)
      · rcases hc with hc | hc
        · rw [hc]
          exact hb
        · exact at_ne e hc exo_own
      · rw [upd_ne (at_ne e hc exo_own), upd_ne (ne_of_none hc hnd)]
        exact hc
      · rw [upd_ne (at_ne e hc exo_tup), upd_ne (ne_of_none hc hnd)]
        exact hc
/-- e.f read -/
theorem xget_ok {b : Bool} {Q : Value → Shared → Prop} (T : XC X.K C B newId initId bmB) (I : Inv X pins σ H s) (e : XV H a C dx fs) (hno : PySem.W.findIn X.K (.ref C) f = some none) (l : fs.lookup f = some y)
    (h : ∀ u s', Inv X pins σ H s' → RelV y u → Q u s') : wpAny (model X.prog X.w) A (getAttr (.ref a) f b) Q E s := by
  obtain ⟨t1, ho⟩ := exo_at I.hok e.1
  obtain ⟨mA, hns, hr⟩ := exd_at I.hok e.2
  obtain ⟨od, hod, hl⟩ := lookIn_ns hns
  obtain ⟨u, hu, ru⟩ := RelO.some_of (v := y) (o := mA f) (by rw [← l]; exact hr f)
  have J : PySem.W.InstAt s.heap a _ C (some od) := ⟨ho, rfl, rfl, hod⟩
  exact HandSPX.exc_get I.kIn J T.ga T.gg T.be (PySem.W.findObj_own T.hd hno rfl (by rw [hl, hu])) (handed_of ru) (h u _ (I.tok _) ru)
/-- isinstance of one -/
theorem xisi_ok {c : Value} {b : Bool} {d : Option Addr} {Q : Value → Shared → Prop} (T : XC X.K C B newId initId bmB) (I : Inv X pins σ H s) (e : H a = some (exo a C d)) (hd : ∀ dx, d = some dx → ∃ fs, H dx = some (exd dx fs))
    (k : PySem.W.kitOne X.K (.ref C) c = some b) (h : ∀ tk, Q (.bool b) { s with toks := tk }) : wpAny (model X.prog X.w) A (call (.builtin "isinstance") [.ref a, c]) Q E s := by
  obtain ⟨t1, ho⟩ := exo_at I.hok e
  cases d with
  | none => exact PySem.W.kia_one (x_kit (od := none) T) I.kIn ⟨ho, rfl, rfl, trivial⟩ k (fun z => nomatch z) h
  | some dx =>
    obtain ⟨fs, ed⟩ := hd dx rfl
    obtain ⟨mA, hns, hr⟩ := exd_at I.hok ed
    obtain ⟨od, hod, hl⟩ := lookIn_ns hns
    exact PySem.W.kia_one (x_kit (od := some od) T) I.kIn ⟨ho, rfl, rfl, hod⟩ k (fun z => nomatch z) h
end
end RG

set_option Elab.async false
set_option linter.all false
set_option maxRecDepth 100000
set_option maxHeartbeats 4000000
/-! RGd: the rules for own exceptions as values. -/
namespace RG
open PySem PySem.Spec PyProof.Rows L2
/-- an own exception class, whatever its base -/
def XCl (K : PySem.W.Frag) (C : Addr) : Prop := ∃ B newId initId bmB, XC K C B newId initId bmB
/-! ### self.f = e in __init__ -/
def sXset (K : PySem.W.Frag) (ta tv : TE) (f : Str) : TS := fun D σ H => tv σ H fun y H1 => ta σ H1 fun x H2 => ∃ a C, x = .ref a ∧ H2 a = some (exo a C none) ∧ XCl K C ∧ PySem.W.findIn K (.ref C) f = some none ∧
  ∀ dx, H2 dx = none → dx ≠ a → D.nx σ (upd (upd H2 dx (exd dx [(f, y)])) a (exo a C (some dx)))
section
variable {X : Cx} {o e value : Expr} {f : Str} {pos pos' : Pos} {ta tv : TE}
theorem ps_xset (ha : PE X o ta) (hv : PE X value tv) (hs : swapsWith value (some (.Attribute o f pos')) pos.line X.env = pure false) : PS X (.Assign [.Attribute o f pos'] value pos) (sXset X.K ta tv f) := by
  constructor
  intro pins s σ H D I h
  refine plainObj_wpAny_Assign_Attribute (thn (hv.run pins s σ H _ I h) fun u s1 hh => ?_) hs
  obtain ⟨y, H1, I1, ry, q⟩ := hh
  refine thn (ha.run pins s1 σ H1 _ I1 q) fun ov s2 hh => ?_
  obtain ⟨x, H2, I2, rx, a, C, rfl, ea, ⟨B, n1, n2, bm, T⟩, hno, q2⟩ := hh
  obtain rfl : ov = Value.ref a := rx
  exact xset_ok T I2 ea hno ry fun dx s3 n1 n2 I3 => ⟨σ, _, I3, q2 dx n1 n2⟩
/-! ### e.f -/
def tXfld (K : PySem.W.Frag) (ta : TE) (f : Str) : TE := fun σ H Q => ta σ H fun x H1 => ∃ a C dx fs v, x = .ref a ∧ XV H1 a C dx fs ∧ XCl K C ∧ PySem.W.findIn K (.ref C) f = some none ∧ fs.lookup f = some v ∧ Q v H1
theorem pe_xfld (he : PE X e ta) (hb : attributeBase e f X.env (eval e X.env) = eval e X.env) : PE X (.Attribute e f pos) (tXfld X.K ta f) := by
  constructor
  intro pins s σ H Q I h
  refine attr_of hb (thn (he.run pins s σ H _ I h) fun u s1 hh => ?_)
  obtain ⟨x, H1, I1, rx, a, C, dx, fs, v, rfl, ea, ⟨B, n1, n2, bm, T⟩, hno, l, q⟩ := hh
  obtain rfl : u = Value.ref a := rx
  exact xget_ok T I1 ea hno l fun u' s2 I2 ru => ⟨v, H1, I2, ru, q⟩
/-! ### isinstance(e, c) -/
def rXisi (K : PySem.W.Frag) : List V → Hp → VK → Prop := fun xs H Q => ∃ a C d c cv b, xs = [.ref a, c] ∧ H a = some (exo a C d) ∧ (∀ dx, d = some dx → ∃ fs, H dx = some (exd dx fs)) ∧ XCl K C ∧ (∀ u, RelV c u → u = cv) ∧
  PySem.W.kitOne K (.ref C) cv = some b ∧ Q (.bl b) H
theorem call_xisi : CallR X (.builtin "isinstance") (rXisi X.K) := by
  intro pins s σ H xs us Q I r h
  obtain ⟨a, C, d, c, cv, b, rfl, ea, ed, ⟨B, n1, n2, bm, T⟩, hc, k, q⟩ := h
  obtain ⟨u, w', rfl, ru, rw'⟩ := vals2 r
  obtain rfl : u = Value.ref a := ru
  have e := hc _ rw'
  subst e
  exact xisi_ok T I ea ed k fun tk => ⟨.bl b, H, I.kept (t' := tk) fun _ _ z => z, rfl, q⟩
/-! ### C(v), C(f = v) -/
/-- what the __init__ of such a class does -/
def spXinit (K : PySem.W.Frag) (C : Addr) (f : Str) : Sp := fun vs H Q _ => ∃ a v, vs = [.ref a, v] ∧ H a = some (exo a C none) ∧ ∀ dx, H dx = none → dx ≠ a → Q .non (upd (upd H dx (exd dx [(f, v)])) a (exo a C (some dx)))
theorem upd_skip {H : Hp} {e dx : Addr} {o p q : HO} (n : dx ≠ e) : upd (upd (upd H e o) dx p) e q = upd (upd H dx p) e q := by
  funext b
  by_cases hb : b = e
  · rw [hb, upd_same, upd_same]
  · rw [upd_ne hb, upd_ne hb]
    by_cases hd : b = dx
    · rw [hd, upd_same, upd_same]
    · rw [upd_ne hd, upd_ne hd, upd_ne hb]
variable {k : Nat} {C fI : Addr} {fd : FuncData} {B newId initId : String} {bmB : List Value}
/-- the call, by values: rest and kw together are the one field's value -/
theorem run_xmake {pins : List (Addr × Obj)} {σ : L2.St} {H : Hp} {s : Shared} {Q : VK} {rest : List Value} {kw : List (Str × Value)} {v : V} {u : Value} (T : XC X.K C B newId initId bmB) (hi : PySem.W.findIn X.K (.ref C) "__init__" = some (some (.ref fI)))
    (hf : PySem.W.isFn X.K (.ref fI) = true) (F : FnOk X.prog X.w X.K X.mg X.base CX0 k fI fd ["self", f] (spXinit X.K C f)) (hr : Room (k + 1) X.A)
    (hb : ∀ (s : Shared) (z : Value), X.K.In s.heap → BindsTo s fd ⟨z :: rest, kw⟩ [("self", z), (f, u)]) (hz : rest.length ≤ sizeLine) (I : Inv X pins σ H s) (rv : RelV v u)
    (h : ∀ e dx, H e = none → H dx = none → dx ≠ e → Q (.ref e) (upd (upd H dx (exd dx [(f, v)])) e (exo e C (some dx)))) : wpAny (model X.prog X.w) X.A (call (.ref C) rest kw) (EP X pins σ Q) X.xe s := by
  obtain ⟨nm, N', qn, bs, bm, hdct, sn, sub, ab, col, dd, k0, k1, k2, k3, k5, hC, hT⟩ := PySem.W.excInit_of I.kIn T.q
  obtain ⟨hp, g, dr, tk, os⟩ := s
  have le : hp.objs.size ≤ hp.objs.size + 1 := Nat.le_succ _
  have hn : H (hp.objs.size + 1) = none := I.hok.fresh le
  have kk : ∀ b o, hp.get? b = some o → ((hp.push (PySem.W.kdv_tup rest)).push (PySem.HandSPX.excO C hp.objs.size)).get? b = some o := fun b o e => Heap.get?_push_of_some _ (Heap.get?_push_of_some _ e)
  have hget : ((hp.push (PySem.W.kdv_tup rest)).push (PySem.HandSPX.excO C hp.objs.size)).get? (hp.objs.size + 1) = some (PySem.HandSPX.excO C hp.objs.size) := by heap_get
  have I2 : Inv X pins σ (upd H (hp.objs.size + 1) (exo (hp.objs.size + 1) C none)) ⟨(hp.push (PySem.W.kdv_tup rest)).push (PySem.HandSPX.excO C hp.objs.size), g, dr, tk, os⟩ :=
    I.laid (t' := tk) (a := hp.objs.size + 1) (o := exo (hp.objs.size + 1) C none) (h' := (hp.push (PySem.W.kdv_tup rest)).push (PySem.HandSPX.excO C hp.objs.size)) kk le (exo_ok hget)
  have hsp : spXinit X.K C f [.ref (hp.objs.size + 1), v] (upd H (hp.objs.size + 1) (exo (hp.objs.size + 1) C none)) (fun z H2 => z = .non ∧ Q (.ref (hp.objs.size + 1)) H2) E0 :=
    ⟨_, v, rfl, upd_same, fun dx n1 n2 => ⟨rfl, by
      rw [upd_skip n2]
      rw [upd_ne n2] at n1
      exact h _ dx hn n1 n2⟩⟩
  have r2 : Vals [V.ref (hp.objs.size + 1), v] [Value.ref (hp.objs.size + 1), u] := .cons rfl (.cons rv .nil)
  refine wpAny_call (x_call T.FB hT hC (PySem.W.looks_findIn I.kIn hi) (fun self => PySem.W.bind_fn I.kIn self (beq_iff_eq.mp hf)) hz
    (codeAny_mono (F.run _ X.stack _ _ ⟨Value.ref (hp.objs.size + 1) :: rest, kw⟩ [Value.ref (hp.objs.size + 1), u] _ _ E0 (hr.make C rest kw) (I2.env0.make C rest kw) (hb _ _ I2.kIn) r2 hsp) fun r s' hq' => ?_))
  match r, hq' with
  | .error er, hq' => exact hq'.elim
  | .ok .next, hq' => exact hq'.elim
  | .ok .brk, hq' => exact hq'.elim
  | .ok .cont, hq' => exact hq'.elim
  | .ok (.ret w), hq' =>
    obtain ⟨z, H3, I3, rz, ez, q3⟩ := I2.after hq'
    subst ez
    exact ⟨rz, ⟨V.ref (hp.objs.size + 1), H3, I3, rfl, q3⟩⟩
def tXmake (C : Addr) (f : Str) (ta : TE) : TE := fun σ H Q => ta σ H fun v H1 => ∀ e dx, H1 e = none → H1 dx = none → dx ≠ e → Q (.ref e) (upd (upd H1 dx (exd dx [(f, v)])) e (exo e C (some dx)))
variable {x : Str} {p kpos : Pos}
theorem one_line {v : Value} : [v].length ≤ sizeLine := by
  rw [sizeLine_eq]
  show 1 ≤ 16777216
  decide
theorem pe_xmake (T : XC X.K C B newId initId bmB) (hi : PySem.W.findIn X.K (.ref C) "__init__" = some (some (.ref fI))) (hf : PySem.W.isFn X.K (.ref fI) = true) (F : FnOk X.prog X.w X.K X.mg X.base CX0 k fI fd ["self", f] (spXinit X.K C f))
    (hr : Room (k + 1) X.A) (hb : Binds X.K fd ["self", f] []) (hg : Gl X x) (hm : X.mg x = some (.ref C)) (he : PE X e ta) (hdb : (x == ("__debug__" : Str)) = false := by decide)
    (hs : starEach [e] X.env = (false, eval e X.env) :: starEach [] X.env := by rfl) : PE X (.Call (.Name x p) [e] [] pos) (tXmake C f ta) := by
  constructor
  intro pins s σ H Q I h
  refine wpAny_Call_Name_kw (ld_glob I hg hm ?_ hdb)
  refine PySem.W.callWith_K (h₀ := X.base) I.ok.mod.kin T.kp ?_ hs (by rfl)
  rw [hs]
  show wpAny _ _ (spliced ((false, eval e X.env) :: backTo pos (starEach [] X.env))) _ _ s
  refine Calls.spliced_cons (thn (he.run pins s σ H _ I h) fun u s1 hh => ?_)
  obtain ⟨v, H1, I1, r1, q1⟩ := hh
  refine Calls.spliced_nil ⟨I1.kIn, ?_⟩
  exact run_xmake (rest := [u]) (kw := []) T hi hf F hr (fun s z hK => hb s [z, u] hK rfl) one_line I1 r1 q1
theorem pe_xmakeK (T : XC X.K C B newId initId bmB) (hi : PySem.W.findIn X.K (.ref C) "__init__" = some (some (.ref fI))) (hf : PySem.W.isFn X.K (.ref fI) = true) (F : FnOk X.prog X.w X.K X.mg X.base CX0 k fI fd ["self", f] (spXinit X.K C f))
    (hr : Room (k + 1) X.A) (hb : ∀ (s : Shared) (z u : Value), X.K.In s.heap → BindsTo s fd ⟨[z], [(f, u)]⟩ [("self", z), (f, u)]) (hg : Gl X x) (hm : X.mg x = some (.ref C)) (he : PE X e ta) (hdb : (x == ("__debug__" : Str)) = false := by decide)
    (hall : (backToKw pos (keywordEach [⟨some f, e, kpos⟩] X.env)).all (·.1.isSome) = true := by rfl) (hks : (backToKw pos (keywordEach [⟨some f, e, kpos⟩] X.env)).filterMap (·.1) = [f] := by rfl)
    (hpl : ((backTo pos (starEach [] X.env)).any (·.1) || (backToKw pos (keywordEach [⟨some f, e, kpos⟩] X.env)).any (·.1.isNone)) = false := by rfl) : PE X (.Call (.Name x p) [] [⟨some f, e, kpos⟩] pos) (tXmake C f ta) := by
  constructor
  intro pins s σ H Q I h
  refine wpAny_Call_Name_kw (ld_glob I hg hm ?_ hdb)
  refine PySem.W.callWith_KW0 (h₀ := X.base) I.ok.mod.kin T.kp hall ?_ hpl
  refine thn ((pk_cons (nm := some f) (kpos := kpos) he pk_nil).run pos pins s σ H (fun vs H1 => ∃ v, vs = [v] ∧ ∀ e dx, H1 e = none → H1 dx = none → dx ≠ e → Q (.ref e) (upd (upd H1 dx (exd dx [(f, v)])) e (exo e C (some dx)))) I ?_) fun ws s1 hh => ?_
  · have h' : ta σ H fun v H1 => ∃ v', [v] = [v'] ∧ ∀ e dx, H1 e = none → H1 dx = none → dx ≠ e → Q (.ref e) (upd (upd H1 dx (exd dx [(f, v')])) e (exo e C (some dx))) := by
      have tm : ∀ Q1 Q2 : VK, Q1 = Q2 → ta σ H Q1 → ta σ H Q2 := fun Q1 Q2 e h => e ▸ h
      refine tm _ _ ?_ h
      funext v H1
      refine propext ⟨fun z => ⟨v, rfl, z⟩, fun ⟨v', ev, z⟩ => ?_⟩
      obtain rfl : v = v' := (List.cons.inj ev).1
      exact z
    exact h'
  · obtain ⟨zs, H1, I1, rz, v, rfl, q⟩ := hh
    obtain ⟨u, rfl, ru⟩ := vals1 rz
    refine ⟨I1.kIn, ?_⟩
    rw [hks]
    exact run_xmake (rest := []) (kw := [(f, u)]) T hi hf F hr (fun s z hK => hb s z u hK) (Nat.zero_le _) I1 ru q
/-- C() where no __init__ is written -/
theorem pe_xmake0 (T : XC X.K C B newId initId bmB) (q : PySem.W.excIn X.K C bmB newId = true) (hg : Gl X x) (hm : X.mg x = some (.ref C)) (hdb : (x == ("__debug__" : Str)) = false := by decide) :
    PE X (.Call (.Name x p) [] [] pos) (fun _ H Q => ∀ e, H e = none → Q (.ref e) (upd H e (exo e C none))) := by
  constructor
  intro pins s σ H Q I h
  refine wpAny_Call_Name_kw (ld_glob I hg hm ?_ hdb)
  refine PySem.W.callWith_K0 I.kIn T.kp ?_
  obtain ⟨bm, N, nm, qn, bs, hdct, sn, sub, ab, col, dd, k0, k1, k2, k3, k5, mN, hC, hN, hni, TT⟩ := exc_obj I.kIn q
  refine wpAny_call_exc_subT T.FB TT hC hN hni (fun h' a hm => ?_) (Nat.zero_le _)
  have hn : H a = none := I.hok.gone hm.new
  obtain ⟨t, ht, _, _⟩ := hm.there
  exact ⟨.ref a, upd H a (exo a C none), I.laidN hm.keeps hm.new hn (exo_ok ht), rfl, h a hn⟩
end
end RG

set_option Elab.async false
set_option linter.all false
set_option maxRecDepth 100000
set_option maxHeartbeats 4000000
/-! RGe: repr of data, flat dicts among them. -/
namespace RG
open PySem PySem.Spec PyProof.Rows L2
/-- a flat value as data -/
def flatD : V → Option PyData
  | .non => some .none
  | .bl b => some (.bool b)
  | .int i => some (.int i)
  | .str x => some (.str x)
  | _ => none
def keyD : Key → PyData
  | .inl i => .int i
  | .inr x => .str x
def flatKvs : List (Key × V) → Option (List (PyData × PyData))
  | [] => some []
  | (k, v) :: r => match flatD v, flatKvs r with
    | some d, some ds => some ((keyD k, d) :: ds)
    | _, _ => none
/-- data that may be a flat dict -/
inductive Dt (K : PySem.W.Frag) (H : Hp) : V → PyData → Prop where
  | of {v : V} {d : PyData} (h : Dp K H v d) (n : d.hasDict = false) : Dt K H v d
  | dic {a : Addr} {kvs : List (Key × V)} {ds : List (PyData × PyData)} (h : H a = some (.dK kvs)) (e : flatKvs kvs = some ds) : Dt K H (.ref a) (.dict ds)
section
variable {X : Cx} {pins : List (Addr × Obj)} {σ : L2.St} {H : Hp} {s : Shared}
theorem flat_reads {h : Heap} {v : V} {u : Value} {d : PyData} (e : flatD v = some d) (r : RelV v u) : Reads h u d [] := by
  cases v with
  | non =>
    cases e
    cases r
    exact .none
  | bl b =>
    cases e
    cases r
    exact .bool b
  | int i =>
    cases e
    obtain ⟨t, rfl⟩ := r
    exact .int i t
  | str x =>
    cases e
    obtain ⟨t, rfl⟩ := r
    exact .str x t
  | _ => cases e
theorem key_reads {h : Heap} {k : Key} {u : Value} (e : keyIs k u = true) : Reads h u (keyD k) [] := by
  rcases keyIs_shape e with ⟨i, t, rfl, rfl⟩ | ⟨x, t, rfl, rfl⟩
  · exact .int i t
  · exact .str x t
theorem kvs_reads {P : Program} {w : World} {h : Heap} : ∀ {kvs : List (Key × V)} {vs : List (Key × Value)} {es : List DictEntry} {ds : List (PyData × PyData)}, flatKvs kvs = some ds → KV kvs vs → Pairs (mixKind P w) es vs →
    ReadsAll h (es.map (·.key)) (ds.map (·.1)) [] ∧ ReadsAll h (es.map (·.val)) (ds.map (·.2)) []
  | [], _, _, _, e, .nil, .nil => by
    cases e
    exact ⟨.nil, .nil⟩
  | (k, v) :: kvs, _, _, ds, e, .cons ⟨r1, r2⟩ rr, .cons p1 p2 pp => by
    unfold flatKvs at e
    cases e1 : flatD v with
    | none =>
      rw [e1] at e
      cases e
    | some d =>
      rw [e1] at e
      cases e2 : flatKvs kvs with
      | none =>
        rw [e2] at e
        cases e
      | some dr =>
        rw [e2] at e
        cases e
        obtain ⟨q1, q2⟩ := kvs_reads (h := h) e2 rr pp
        refine ⟨.cons (as := []) (bs := []) ?_ q1, .cons (as := []) (bs := []) ?_ q2⟩
        · have r1' : k = _ := r1
          rw [mixKind_is, ← r1'] at p1
          exact key_reads p1
        · have z := flat_reads (h := h) e1 r2
          rw [← p2] at z
          exact z
/-- repr(v) -/
def rRepr (K : PySem.W.Frag) : List V → Hp → VK → Prop := fun xs H Q => ∃ v d, xs = [v] ∧ Dt K H v d ∧ d.showable = true ∧ d.depth ≤ 50 ∧ d.shown.length ≤ sizeLine ∧ Q (.str d.shown) H
theorem Dt.reads (I : Inv X pins σ H s) {v : V} {u : Value} {d : PyData} (h : Dt X.K H v d) (r : RelV v u) : ∃ as, Reads s.heap u d as ∧ (d.hasDict = true → sysModules ∉ as) := by
  cases h with
  | of h n =>
    obtain ⟨as, q⟩ := Dp.reads I d v u h r
    exact ⟨as, q, fun z => by rw [n] at z; cases z⟩
  | @dic a kvs ds h e =>
    cases r
    obtain ⟨hz, hS, vs, rk, o, es, ep, ho, hx, hd, _, pr, _⟩ := (show ObjOk X.prog X.w H s.heap a (.dK kvs) from I.hok a _ h)
    obtain ⟨q1, q2⟩ := kvs_reads (h := s.heap) e rk pr
    refine ⟨_, .dict ho hx.1 hd (by simpa using q1) (by simpa using q2), fun _ hm => ?_⟩
    have e : sysModules = a := by simpa using hm
    rw [← e] at hS
    simp at hS
theorem call_repr {k : Nat} (hg : X.A.guards = some []) (hr : Room k X.A) : CallR X (.builtin "repr") (rRepr X.K) := by
  intro pins s σ H xs us Q I r h
  obtain ⟨v, d, rfl, hd, hs, hdep, hz, q⟩ := h
  obtain ⟨u, rfl, ru⟩ := vals1 r
  have hu := hr.units
  cases v with
  | non =>
    cases ru
    cases hd with
    | of h n =>
      cases h
      simp only [PyData.shown] at q
      exact PySem.P.repr_of_none ⟨.str _, H, I.tok _, ⟨_, rfl⟩, q⟩
  | bl b =>
    cases ru
    cases hd with
    | of h n =>
      cases h
      simp only [PyData.shown] at q
      exact PySem.P.repr_of_bool ⟨.str _, H, I.tok _, ⟨_, rfl⟩, q⟩
  | int i =>
    obtain ⟨t, rfl⟩ := ru
    cases hd with
    | of h n =>
      cases h
      simp only [PyData.shown] at q
      exact PySem.P.repr_of_int (by simpa [PyData.showable] using hs) ⟨.str _, H, I.tok _, ⟨_, rfl⟩, q⟩
  | str x =>
    obtain ⟨t, rfl⟩ := ru
    cases hd with
    | of h n =>
      cases h
      simp only [PyData.shown] at q hz
      exact PySem.P.repr_of_str ⟨.str _, H, I.tok _, ⟨_, rfl⟩, q⟩ hz
  | ref a =>
    cases ru
    obtain ⟨as, rd, hsm⟩ := hd.reads I rfl
    exact repr_of_reads' rd hs hsm hg (by omega) (fun _ _ e => e) (fun h' u tk hk => ⟨.str d.shown, H, I.kept (t' := tk) hk, ⟨_, rfl⟩, q⟩) hz
  | _ =>
    cases hd with
    | of h n => cases h
end
end RG

set_option Elab.async false
set_option linter.all false
set_option maxRecDepth 100000
set_option maxHeartbeats 4000000
/-! RGf: the facts of own exception classes by one Bool; their __init__. -/
namespace RG
open PySem PySem.Spec PyProof.Rows L2
def dEq (a b : Option (Option Value)) : Bool := decide (a = b)
def xcB (K : PySem.W.Frag) (C : Addr) (newId : String) (bmB : List Value) : Bool :=
  PySem.W.excInitIn K C bmB newId && (PySem.W.excOver K C bmB && (dEq (PySem.W.findIn K (.ref C) "__setattr__") (some (some (.builtin "object.__setattr__"))) && (PySem.W.hasDictIn K C && (PySem.W.keepIn K (.ref C) &&
  (dEq (PySem.W.findIn K (.ref C) "__getattribute__") (some (some (.builtin "BaseException.__getattribute__"))) && (dEq (PySem.W.findIn K (.ref C) "__getattr__") (some none) && (decide (PySem.W.subIn K (.ref C) (.type "BaseException") = some true) &&
  (dEq (PySem.W.findIn K (.ref C) "__class__") (some (some (.builtin "object.__class__"))) && (dEq (PySem.W.specialIn K (.builtin "object.__class__") "__get__") (some (some (.builtin "getset_descriptor.__get__"))) &&
  (decide (PySem.W.takesIn K (.builtin "object.__class__") = some true) && (decide (PySem.W.mroIn K C (.type "object") = some true) && decide (PySem.W.typeIn K (.ref C) = some (.type "type")))))))))))))
theorem bb {a b : Bool} (h : (a && b) = true) : a = true ∧ b = true := Bool.and_eq_true_iff.mp h
theorem xcB_ok {K : PySem.W.Frag} {C : Addr} {B newId initId : String} {bmB : List Value} (FB : ExcBaseFacts B newId initId bmB) (SF : StoreFacts B bmB "object.__setattr__" "object") (h : xcB K C newId bmB = true) : XC K C B newId initId bmB := by
  unfold xcB dEq at h
  obtain ⟨h1, h⟩ := bb h
  obtain ⟨h2, h⟩ := bb h
  obtain ⟨h3, h⟩ := bb h
  obtain ⟨h4, h⟩ := bb h
  obtain ⟨h5, h⟩ := bb h
  obtain ⟨h6, h⟩ := bb h
  obtain ⟨h7, h⟩ := bb h
  obtain ⟨h8, h⟩ := bb h
  obtain ⟨h9, h⟩ := bb h
  obtain ⟨h10, h⟩ := bb h
  obtain ⟨h11, h⟩ := bb h
  obtain ⟨h12, h13⟩ := bb h
  exact ⟨FB, SF, h1, h2, of_decide_eq_true h3, h4, h5, of_decide_eq_true h6, of_decide_eq_true h7, of_decide_eq_true h8, of_decide_eq_true h9, of_decide_eq_true h10, of_decide_eq_true h11, of_decide_eq_true h12, of_decide_eq_true h13⟩
abbrev mro1 (B : String) : List Value := [.type B, .type "Exception", .type "BaseException", .type "object"]
abbrev xVal (K : PySem.W.Frag) (C : Addr) : Prop := XC K C "ValueError" "ValueError.__new__" "ValueError.__init__" (mro1 "ValueError")
abbrev xLook (K : PySem.W.Frag) (C : Addr) : Prop := XC K C "LookupError" "LookupError.__new__" "LookupError.__init__" (mro1 "LookupError")
abbrev xArith (K : PySem.W.Frag) (C : Addr) : Prop := XC K C "ArithmeticError" "ArithmeticError.__new__" "ArithmeticError.__init__" (mro1 "ArithmeticError")
theorem xVal_ok {K : PySem.W.Frag} {C : Addr} (h : xcB K C "ValueError.__new__" (mro1 "ValueError") = true) : xVal K C := xcB_ok PySem.F.excBase_ValueError PySem.F.store_ValueError h
theorem xLook_ok {K : PySem.W.Frag} {C : Addr} (h : xcB K C "LookupError.__new__" (mro1 "LookupError") = true) : xLook K C := xcB_ok PySem.F.excBase_LookupError PySem.F.store_LookupError h
theorem xArith_ok {K : PySem.W.Frag} {C : Addr} (h : xcB K C "ArithmeticError.__new__" (mro1 "ArithmeticError") = true) : xArith K C := xcB_ok PySem.F.excBase_ArithmeticError PySem.F.store_ArithmeticError h
/-- the facts of the __init__ of such a class, its one field f -/
def xiB (K : PySem.W.Frag) (C : Addr) (f : Str) : Bool :=
  dEq (PySem.W.findIn K (.ref C) "__init__") (some (some (.ref (He.ma K C "__init__")))) && (PySem.W.isFn K (.ref (He.ma K C "__init__")) && dEq (PySem.W.findIn K (.ref C) f) (some none))
structure XI (K : PySem.W.Frag) (C : Addr) (f : Str) : Prop where
  ini : PySem.W.findIn K (.ref C) "__init__" = some (some (.ref (He.ma K C "__init__")))
  fn : PySem.W.isFn K (.ref (He.ma K C "__init__")) = true
  no : PySem.W.findIn K (.ref C) f = some none
theorem xiB_ok {K : PySem.W.Frag} {C : Addr} {f : Str} (h : xiB K C f = true) : XI K C f := by
  unfold xiB dEq at h
  obtain ⟨h1, h⟩ := bb h
  obtain ⟨h2, h3⟩ := bb h
  exact ⟨of_decide_eq_true h1, h2, of_decide_eq_true h3⟩
/-- def __init__(self, f): self.f = f -/
theorem ok_xinit {P : Program} {w : World} {K : PySem.W.Frag} {mg : Str → Option Value} {base : Heap} {C : Addr} {f qual : Str} {params : Arguments} {body : List Stmt} {scope : Scope} {fd : FuncData} {q1 q2 q3 q4 : Pos}
    (F : FunD K "__init__" qual params body scope [] [] (He.ma K C "__init__") fd) (I : XI K C f) (T : XCl K C) (S : FnScope ["self", f] ["self", f] scope)
    (hb : body = [.Assign [.Attribute (.Name "self" q1) f q2] (.Name f q3) q4]) (hs : scope.names.lookup ("self" : Str) = some .local) (hf : scope.names.lookup f = some .local)
    (d1 : (f == ("__debug__" : Str)) = false) (d2 : (f == ("__classdict__" : Str)) = false) : FnOk P w K mg base CX0 1 (He.ma K C "__init__") fd ["self", f] (spXinit K C f) := by
  refine F.ok S (fun vs H Q E h => ?_) (fun cdv A outer s H vs Q E hr h => ?_)
  · obtain ⟨a, v, rfl, _⟩ := h
    rfl
  · obtain ⟨a, v, rfl, ea, k⟩ := h
    subst hb
    exact ⟨_, PSs.nox (pss_one (ps_xset (pe_var (i := 0) rfl (.inl hs)) (pe_var (i := 1) rfl (.inl hf) d1 d2) rfl)), ⟨v, rfl, _, rfl, a, C, rfl, ea, T, I.no, fun dx n1 n2 => k dx n1 n2⟩⟩
end RG

set_option Elab.async false
set_option linter.all false
set_option maxRecDepth 100000
set_option maxHeartbeats 4000000
/-! RGg: ways joined behind an expression, a test, a statement. -/
namespace RG
open PySem PySem.Spec PyProof.Rows L2
def tMid (t : TE) : TE := fun σ H Q => ∃ M : VK, t σ H M ∧ ∀ v H', M v H' → Q v H'
theorem pe_mid {X : Cx} {e : Expr} {t : TE} (h : PE X e t) : PE X e (tMid t) := by
  constructor
  rintro pins s σ H Q I ⟨M, h1, h2⟩
  refine thn (h.run pins s σ H M I h1) fun u s1 hh => ?_
  obtain ⟨v, H1, I1, r, q⟩ := hh
  exact ⟨v, H1, I1, r, h2 v H1 q⟩
def ttMid (t : TT) : TT := fun σ H Q => ∃ M : Bool → Hp → Prop, t σ H M ∧ ∀ v H', M v H' → Q v H'
theorem pt_mid {X : Cx} {e : Expr} {t : TT} (h : PT X e t) : PT X e (ttMid t) := by
  constructor
  rintro pins s σ H Q I ⟨M, h1, h2⟩
  refine thn (h.run pins s σ H M I h1) fun u s1 hh => ?_
  obtain ⟨H1, I1, q⟩ := hh
  exact ⟨H1, I1, h2 u H1 q⟩
def tsMid (t u : TS) : TS := fun D σ H => ∃ M : L2.St → Hp → Prop, t { D with nx := M } σ H ∧ ∀ σ' H', M σ' H' → u D σ' H'
theorem pss_mid {X : Cx} {st : Stmt} {rest : List Stmt} {t u : TS} (h1 : PS X st t) (h2 : PSs X rest u) : PSs X (st :: rest) (tsMid t u) := by
  constructor
  rintro pins s σ H D I ⟨M, hm, hu⟩
  refine wpAny_execs_cons (thn (h1.run pins s σ H { D with nx := M } I hm) fun f s1 q => ?_)
  match f, q with
  | .next, q =>
    obtain ⟨σ', H', I', q⟩ := q
    exact h2.run pins s1 σ' H' D I' (hu σ' H' q)
  | .ret v, q => exact q
  | .brk, q => exact q
  | .cont, q => exact q
/-- another reading that says as much -/
theorem pe_imp {X : Cx} {e : Expr} {t t' : TE} (h : PE X e t) (i : ∀ σ H Q, t' σ H Q → t σ H Q) : PE X e t' := ⟨fun pins s σ H Q I q => h.run pins s σ H Q I (i σ H Q q)⟩
theorem pt_imp {X : Cx} {e : Expr} {t t' : TT} (h : PT X e t) (i : ∀ σ H Q, t' σ H Q → t σ H Q) : PT X e t' := ⟨fun pins s σ H Q I q => h.run pins s σ H Q I (i σ H Q q)⟩
theorem ps_imp {X : Cx} {st : Stmt} {t t' : TS} (h : PS X st t) (i : ∀ D σ H, t' D σ H → t D σ H) : PS X st t' := ⟨fun pins s σ H D I q => h.run pins s σ H D I (i D σ H q)⟩
/-- the written part told, for the block of a comprehension -/
theorem pe_xfldK {X : Cx} {e : Expr} {f : Str} {pos : Pos} {ta : TE} (K : PySem.W.Frag) (he : PE X e ta) (hb : attributeBase e f X.env (eval e X.env) = eval e X.env) (hK : X.K = K := by rfl) : PE X (.Attribute e f pos) (tXfld K ta f) := by
  subst hK
  exact pe_xfld he hb
theorem pe_fldK {X : Cx} {e : Expr} {f : Str} {pos : Pos} {ta : TE} (K : PySem.W.Frag) (he : PE X e ta) (hb : attributeBase e f X.env (eval e X.env) = eval e X.env) (hK : X.K = K := by rfl) : PE X (.Attribute e f pos) (tFld K ta f) := by
  subst hK
  exact pe_fld he hb
/-- a list of values, all of which are ints -/
def AllInt (xs : List V) : Prop := ∀ x ∈ xs, ∃ n : Int, x = .int n
theorem allInt_map (ns : List Int) : AllInt (ns.map V.int) := fun x h => by
  obtain ⟨n, _, e⟩ := List.mem_map.mp h
  exact ⟨n, e.symm⟩
theorem cutV_mem {xs : List V} {lo hi : Option Int} {x : V} (h : x ∈ cutV xs lo hi) : x ∈ xs := by
  unfold cutV at h
  exact List.mem_of_mem_drop (List.mem_of_mem_take h)
end RG

set_option Elab.async false
set_option linter.all false
set_option maxRecDepth 100000
set_option maxHeartbeats 4000000
namespace RG
open PySem PySem.Spec PyProof.Rows L2
def top (i : Nat) : Stmt := PySem.Challenge.pw_rungladders_k01_constants_and_errors.main.body.getD i (.Pass ⟨0, 0, 0, 0⟩)
abbrev s__law_cup : Stmt := top 32
theorem sc__law_cup : FnScope ["_law_script", "_law_spot", "_law_cell", "_law_one"] ["_law_script", "_law_spot"] (defScope s__law_cup) := ⟨rfl, rfl, rfl, by decide +kernel, rfl, by decide +kernel, by decide +kernel⟩
abbrev s__law_sip : Stmt := top 33
theorem sc__law_sip : FnScope ["_law_cup_here", "_law_many", "_law_part"] ["_law_cup_here", "_law_many"] (defScope s__law_sip) := ⟨rfl, rfl, rfl, by decide +kernel, rfl, by decide +kernel, by decide +kernel⟩
abbrev s__law_pick : Stmt := top 34
theorem sc__law_pick : FnScope ["_law_cup_here", "_law_things"] ["_law_cup_here", "_law_things"] (defScope s__law_pick) := ⟨rfl, rfl, rfl, by decide +kernel, rfl, by decide +kernel, by decide +kernel⟩
abbrev s__law_classes : Stmt := top 35
theorem sc__law_classes : FnScope ["_law_e", "_law_found", "_law_above", "_law_at"] ["_law_e"] (defScope s__law_classes) := ⟨rfl, rfl, rfl, by decide +kernel, rfl, by decide +kernel, by decide +kernel⟩
abbrev s__law_given : Stmt := top 36
theorem sc__law_given : FnScope ["_law_thing", "_law_found"] ["_law_thing"] (defScope s__law_given) := ⟨rfl, rfl, rfl, by decide +kernel, rfl, by decide +kernel, by decide +kernel⟩
abbrev s__law_indexed : Stmt := top 37
theorem sc__law_indexed : FnScope ["_law_thing", "_law_found"] ["_law_thing"] (defScope s__law_indexed) := ⟨rfl, rfl, rfl, by decide +kernel, rfl, by decide +kernel, by decide +kernel⟩
abbrev s__law_right : Stmt := top 38
theorem sc__law_right : FnScope ["_law_cup_here", "_law_things", "_law_thing", "_law_at", "_law_both", "_law_e"] ["_law_cup_here"] (defScope s__law_right) := ⟨rfl, rfl, rfl, by decide +kernel, rfl, by decide +kernel, by decide +kernel⟩
abbrev s_law : Stmt := top 39
theorem sc_law : FnScope ["_law_script", "_law_told", "_law_bare", "_law_e", "_law_spot"] ["_law_script"] (defScope s_law) := ⟨rfl, rfl, rfl, by decide +kernel, rfl, by decide +kernel, by decide +kernel⟩
abbrev s_NotAPattern_init : Stmt := inClass (top 2) 0
theorem sc_NotAPattern_init : FnScope ["self", "given"] ["self", "given"] (defScope s_NotAPattern_init) := ⟨rfl, rfl, rfl, by decide +kernel, rfl, by decide +kernel, by decide +kernel⟩
abbrev s_NotARun_init : Stmt := inClass (top 3) 0
theorem sc_NotARun_init : FnScope ["self", "given"] ["self", "given"] (defScope s_NotARun_init) := ⟨rfl, rfl, rfl, by decide +kernel, rfl, by decide +kernel, by decide +kernel⟩
abbrev s_InvalidResistance_init : Stmt := inClass (top 4) 0
theorem sc_InvalidResistance_init : FnScope ["self", "given"] ["self", "given"] (defScope s_InvalidResistance_init) := ⟨rfl, rfl, rfl, by decide +kernel, rfl, by decide +kernel, by decide +kernel⟩
abbrev s_InvalidCount_init : Stmt := inClass (top 5) 0
theorem sc_InvalidCount_init : FnScope ["self", "given"] ["self", "given"] (defScope s_InvalidCount_init) := ⟨rfl, rfl, rfl, by decide +kernel, rfl, by decide +kernel, by decide +kernel⟩
abbrev s_InvalidNumber_init : Stmt := inClass (top 6) 0
theorem sc_InvalidNumber_init : FnScope ["self", "given"] ["self", "given"] (defScope s_InvalidNumber_init) := ⟨rfl, rfl, rfl, by decide +kernel, rfl, by decide +kernel, by decide +kernel⟩
abbrev s_InvalidText_init : Stmt := inClass (top 7) 0
theorem sc_InvalidText_init : FnScope ["self", "given"] ["self", "given"] (defScope s_InvalidText_init) := ⟨rfl, rfl, rfl, by decide +kernel, rfl, by decide +kernel, by decide +kernel⟩
abbrev s_InvalidName_init : Stmt := inClass (top 8) 0
theorem sc_InvalidName_init : FnScope ["self", "given"] ["self", "given"] (defScope s_InvalidName_init) := ⟨rfl, rfl, rfl, by decide +kernel, rfl, by decide +kernel, by decide +kernel⟩
abbrev s_InvalidClaim_init : Stmt := inClass (top 9) 0
theorem sc_InvalidClaim_init : FnScope ["self", "given"] ["self", "given"] (defScope s_InvalidClaim_init) := ⟨rfl, rfl, rfl, by decide +kernel, rfl, by decide +kernel, by decide +kernel⟩
abbrev s_InvalidIndex_init : Stmt := inClass (top 10) 0
theorem sc_InvalidIndex_init : FnScope ["self", "given"] ["self", "given"] (defScope s_InvalidIndex_init) := ⟨rfl, rfl, rfl, by decide +kernel, rfl, by decide +kernel, by decide +kernel⟩
abbrev s_InvalidPieces_init : Stmt := inClass (top 11) 0
theorem sc_InvalidPieces_init : FnScope ["self", "index"] ["self", "index"] (defScope s_InvalidPieces_init) := ⟨rfl, rfl, rfl, by decide +kernel, rfl, by decide +kernel, by decide +kernel⟩
abbrev s_InvalidKinds_init : Stmt := inClass (top 12) 0
theorem sc_InvalidKinds_init : FnScope ["self", "index"] ["self", "index"] (defScope s_InvalidKinds_init) := ⟨rfl, rfl, rfl, by decide +kernel, rfl, by decide +kernel, by decide +kernel⟩
abbrev s_InvalidStretches_init : Stmt := inClass (top 13) 0
theorem sc_InvalidStretches_init : FnScope ["self", "index"] ["self", "index"] (defScope s_InvalidStretches_init) := ⟨rfl, rfl, rfl, by decide +kernel, rfl, by decide +kernel, by decide +kernel⟩
abbrev s_InvalidDeeds_init : Stmt := inClass (top 14) 0
theorem sc_InvalidDeeds_init : FnScope ["self", "index"] ["self", "index"] (defScope s_InvalidDeeds_init) := ⟨rfl, rfl, rfl, by decide +kernel, rfl, by decide +kernel, by decide +kernel⟩
abbrev s_UnknownName_init : Stmt := inClass (top 16) 0
theorem sc_UnknownName_init : FnScope ["self", "given"] ["self", "given"] (defScope s_UnknownName_init) := ⟨rfl, rfl, rfl, by decide +kernel, rfl, by decide +kernel, by decide +kernel⟩
abbrev s_InUse_init : Stmt := inClass (top 17) 0
theorem sc_InUse_init : FnScope ["self", "index"] ["self", "index"] (defScope s_InUse_init) := ⟨rfl, rfl, rfl, by decide +kernel, rfl, by decide +kernel, by decide +kernel⟩
abbrev s_TooMany_init : Stmt := inClass (top 19) 0
theorem sc_TooMany_init : FnScope ["self", "most"] ["self", "most"] (defScope s_TooMany_init) := ⟨rfl, rfl, rfl, by decide +kernel, rfl, by decide +kernel, by decide +kernel⟩
abbrev s_Broken_init : Stmt := inClass (top 20) 0
theorem sc_Broken_init : FnScope ["self", "index"] ["self", "index"] (defScope s_Broken_init) := ⟨rfl, rfl, rfl, by decide +kernel, rfl, by decide +kernel, by decide +kernel⟩
/-- the classes that an error is held against, in the law's order -/
inductive Tst where
  | own (x : Str)
  | bi (x : String)
def tests : List Tst := [.own "NotAPattern", .own "NotARun", .own "InvalidResistance", .own "InvalidCount", .own "InvalidNumber", .own "InvalidText", .own "InvalidName", .own "InvalidClaim", .own "InvalidIndex", .own "InvalidPieces", .own "InvalidKinds", .own "InvalidStretches", .own "InvalidDeeds", .own "UnknownName", .own "InUse", .own "TooMany", .own "Broken", .own "NoLimit", .own "NothingToUndo"] ++ [.own "WrongValue", .own "WrongName", .own "NoAnswer", .bi "ValueError", .bi "LookupError", .bi "ArithmeticError"]
def Tst.v (K : PySem.W.Frag) : Tst → Value
  | .own x => .ref (He.ga K x)
  | .bi x => .type x
def kitB (K : PySem.W.Frag) (C : Addr) : List Tst → List Bool → Bool
  | t :: ts, b :: bs => decide (PySem.W.kitOne K (.ref C) (t.v K) = some b) && kitB K C ts bs
  | [], [] => true
  | _, _ => false
inductive KitRow (K : PySem.W.Frag) (C : Addr) : List Tst → List Bool → Prop where
  | nil : KitRow K C [] []
  | cons {t : Tst} {b : Bool} {ts : List Tst} {bs : List Bool} (h : PySem.W.kitOne K (.ref C) (t.v K) = some b) (r : KitRow K C ts bs) : KitRow K C (t :: ts) (b :: bs)
theorem kitB_ok {K : PySem.W.Frag} {C : Addr} : ∀ {ts : List Tst} {bs : List Bool}, kitB K C ts bs = true → KitRow K C ts bs
  | [], [], _ => .nil
  | [], _ :: _, h => by cases h
  | _ :: _, [], h => by cases h
  | t :: ts, b :: bs, h => by
    obtain ⟨h1, h2⟩ := bb (show (decide (PySem.W.kitOne K (.ref C) (t.v K) = some b) && kitB K C ts bs) = true from h)
    exact .cons (of_decide_eq_true h1) (kitB_ok h2)
/-- what isinstance tells of an error of the i-th class (19: none of them) with the j-th base -/
def rowOf (i j : Nat) : List Bool := (List.range 19).map (fun k => k == i) ++ ((List.range 3).map (fun k => k == j) ++ (List.range 3).map (fun k => k == j))
structure Tx (K : PySem.W.Frag) (mg : Str → Option Value) : Prop where
  g__law_cup : mg "_law_cup" = some (.ref (He.ga K "_law_cup"))
  d__law_cup : FunD K "_law_cup" "_law_cup" (defArgs s__law_cup) (defBody s__law_cup) (defScope s__law_cup) [] [] (He.ga K "_law_cup") (fdAt K (He.ga K "_law_cup"))
  g__law_sip : mg "_law_sip" = some (.ref (He.ga K "_law_sip"))
  d__law_sip : FunD K "_law_sip" "_law_sip" (defArgs s__law_sip) (defBody s__law_sip) (defScope s__law_sip) [] [] (He.ga K "_law_sip") (fdAt K (He.ga K "_law_sip"))
  g__law_pick : mg "_law_pick" = some (.ref (He.ga K "_law_pick"))
  d__law_pick : FunD K "_law_pick" "_law_pick" (defArgs s__law_pick) (defBody s__law_pick) (defScope s__law_pick) [] [] (He.ga K "_law_pick") (fdAt K (He.ga K "_law_pick"))
  g__law_classes : mg "_law_classes" = some (.ref (He.ga K "_law_classes"))
  d__law_classes : FunD K "_law_classes" "_law_classes" (defArgs s__law_classes) (defBody s__law_classes) (defScope s__law_classes) [] [] (He.ga K "_law_classes") (fdAt K (He.ga K "_law_classes"))
  g__law_given : mg "_law_given" = some (.ref (He.ga K "_law_given"))
  d__law_given : FunD K "_law_given" "_law_given" (defArgs s__law_given) (defBody s__law_given) (defScope s__law_given) [] [] (He.ga K "_law_given") (fdAt K (He.ga K "_law_given"))
  g__law_indexed : mg "_law_indexed" = some (.ref (He.ga K "_law_indexed"))
  d__law_indexed : FunD K "_law_indexed" "_law_indexed" (defArgs s__law_indexed) (defBody s__law_indexed) (defScope s__law_indexed) [] [] (He.ga K "_law_indexed") (fdAt K (He.ga K "_law_indexed"))
  g__law_right : mg "_law_right" = some (.ref (He.ga K "_law_right"))
  d__law_right : FunD K "_law_right" "_law_right" (defArgs s__law_right) (defBody s__law_right) (defScope s__law_right) [] [] (He.ga K "_law_right") (fdAt K (He.ga K "_law_right"))
  g_law : mg "law" = some (.ref (He.ga K "law"))
  d_law : FunD K "law" "law" (defArgs s_law) (defBody s_law) (defScope s_law) [] [] (He.ga K "law") (fdAt K (He.ga K "law"))
  g_WrongValue : mg "WrongValue" = some (.ref (He.ga K "WrongValue"))
  x_WrongValue : xVal K (He.ga K "WrongValue")
  q_WrongValue : PySem.W.excIn K (He.ga K "WrongValue") (mro1 "ValueError") "ValueError.__new__" = true
  g_WrongName : mg "WrongName" = some (.ref (He.ga K "WrongName"))
  x_WrongName : xLook K (He.ga K "WrongName")
  q_WrongName : PySem.W.excIn K (He.ga K "WrongName") (mro1 "LookupError") "LookupError.__new__" = true
  g_NoAnswer : mg "NoAnswer" = some (.ref (He.ga K "NoAnswer"))
  x_NoAnswer : xArith K (He.ga K "NoAnswer")
  q_NoAnswer : PySem.W.excIn K (He.ga K "NoAnswer") (mro1 "ArithmeticError") "ArithmeticError.__new__" = true
  g_NotAPattern : mg "NotAPattern" = some (.ref (He.ga K "NotAPattern"))
  x_NotAPattern : xVal K (He.ga K "NotAPattern")
  i_NotAPattern : XI K (He.ga K "NotAPattern") "given"
  d_NotAPattern_init : FunD K "__init__" "NotAPattern.__init__" (defArgs s_NotAPattern_init) (defBody s_NotAPattern_init) (defScope s_NotAPattern_init) [] [] (He.ma K (He.ga K "NotAPattern") "__init__") (fdAt K (He.ma K (He.ga K "NotAPattern") "__init__"))
  g_NotARun : mg "NotARun" = some (.ref (He.ga K "NotARun"))
  x_NotARun : xVal K (He.ga K "NotARun")
  i_NotARun : XI K (He.ga K "NotARun") "given"
  d_NotARun_init : FunD K "__init__" "NotARun.__init__" (defArgs s_NotARun_init) (defBody s_NotARun_init) (defScope s_NotARun_init) [] [] (He.ma K (He.ga K "NotARun") "__init__") (fdAt K (He.ma K (He.ga K "NotARun") "__init__"))
  g_InvalidResistance : mg "InvalidResistance" = some (.ref (He.ga K "InvalidResistance"))
  x_InvalidResistance : xVal K (He.ga K "InvalidResistance")
  i_InvalidResistance : XI K (He.ga K "InvalidResistance") "given"
  d_InvalidResistance_init : FunD K "__init__" "InvalidResistance.__init__" (defArgs s_InvalidResistance_init) (defBody s_InvalidResistance_init) (defScope s_InvalidResistance_init) [] [] (He.ma K (He.ga K "InvalidResistance") "__init__") (fdAt K (He.ma K (He.ga K "InvalidResistance") "__init__"))
  g_InvalidCount : mg "InvalidCount" = some (.ref (He.ga K "InvalidCount"))
  x_InvalidCount : xVal K (He.ga K "InvalidCount")
  i_InvalidCount : XI K (He.ga K "InvalidCount") "given"
  d_InvalidCount_init : FunD K "__init__" "InvalidCount.__init__" (defArgs s_InvalidCount_init) (defBody s_InvalidCount_init) (defScope s_InvalidCount_init) [] [] (He.ma K (He.ga K "InvalidCount") "__init__") (fdAt K (He.ma K (He.ga K "InvalidCount") "__init__"))
  g_InvalidNumber : mg "InvalidNumber" = some (.ref (He.ga K "InvalidNumber"))
  x_InvalidNumber : xVal K (He.ga K "InvalidNumber")
  i_InvalidNumber : XI K (He.ga K "InvalidNumber") "given"
  d_InvalidNumber_init : FunD K "__init__" "InvalidNumber.__init__" (defArgs s_InvalidNumber_init) (defBody s_InvalidNumber_init) (defScope s_InvalidNumber_init) [] [] (He.ma K (He.ga K "InvalidNumber") "__init__") (fdAt K (He.ma K (He.ga K "InvalidNumber") "__init__"))
  g_InvalidText : mg "InvalidText" = some (.ref (He.ga K "InvalidText"))
  x_InvalidText : xVal K (He.ga K "InvalidText")
  i_InvalidText : XI K (He.ga K "InvalidText") "given"
  d_InvalidText_init : FunD K "__init__" "InvalidText.__init__" (defArgs s_InvalidText_init) (defBody s_InvalidText_init) (defScope s_InvalidText_init) [] [] (He.ma K (He.ga K "InvalidText") "__init__") (fdAt K (He.ma K (He.ga K "InvalidText") "__init__"))
  g_InvalidName : mg "InvalidName" = some (.ref (He.ga K "InvalidName"))
  x_InvalidName : xVal K (He.ga K "InvalidName")
  i_InvalidName : XI K (He.ga K "InvalidName") "given"
  d_InvalidName_init : FunD K "__init__" "InvalidName.__init__" (defArgs s_InvalidName_init) (defBody s_InvalidName_init) (defScope s_InvalidName_init) [] [] (He.ma K (He.ga K "InvalidName") "__init__") (fdAt K (He.ma K (He.ga K "InvalidName") "__init__"))
  g_InvalidClaim : mg "InvalidClaim" = some (.ref (He.ga K "InvalidClaim"))
  x_InvalidClaim : xVal K (He.ga K "InvalidClaim")
  i_InvalidClaim : XI K (He.ga K "InvalidClaim") "given"
  d_InvalidClaim_init : FunD K "__init__" "InvalidClaim.__init__" (defArgs s_InvalidClaim_init) (defBody s_InvalidClaim_init) (defScope s_InvalidClaim_init) [] [] (He.ma K (He.ga K "InvalidClaim") "__init__") (fdAt K (He.ma K (He.ga K "InvalidClaim") "__init__"))
  g_InvalidIndex : mg "InvalidIndex" = some (.ref (He.ga K "InvalidIndex"))
  x_InvalidIndex : xVal K (He.ga K "InvalidIndex")
  i_InvalidIndex : XI K (He.ga K "InvalidIndex") "given"
  d_InvalidIndex_init : FunD K "__init__" "InvalidIndex.__init__" (defArgs s_InvalidIndex_init) (defBody s_InvalidIndex_init) (defScope s_InvalidIndex_init) [] [] (He.ma K (He.ga K "InvalidIndex") "__init__") (fdAt K (He.ma K (He.ga K "InvalidIndex") "__init__"))
  g_InvalidPieces : mg "InvalidPieces" = some (.ref (He.ga K "InvalidPieces"))
  x_InvalidPieces : xVal K (He.ga K "InvalidPieces")
  i_InvalidPieces : XI K (He.ga K "InvalidPieces") "index"
  d_InvalidPieces_init : FunD K "__init__" "InvalidPieces.__init__" (defArgs s_InvalidPieces_init) (defBody s_InvalidPieces_init) (defScope s_InvalidPieces_init) [] [] (He.ma K (He.ga K "InvalidPieces") "__init__") (fdAt K (He.ma K (He.ga K "InvalidPieces") "__init__"))
  g_InvalidKinds : mg "InvalidKinds" = some (.ref (He.ga K "InvalidKinds"))
  x_InvalidKinds : xVal K (He.ga K "InvalidKinds")
  i_InvalidKinds : XI K (He.ga K "InvalidKinds") "index"
  d_InvalidKinds_init : FunD K "__init__" "InvalidKinds.__init__" (defArgs s_InvalidKinds_init) (defBody s_InvalidKinds_init) (defScope s_InvalidKinds_init) [] [] (He.ma K (He.ga K "InvalidKinds") "__init__") (fdAt K (He.ma K (He.ga K "InvalidKinds") "__init__"))
  g_InvalidStretches : mg "InvalidStretches" = some (.ref (He.ga K "InvalidStretches"))
  x_InvalidStretches : xVal K (He.ga K "InvalidStretches")
  i_InvalidStretches : XI K (He.ga K "InvalidStretches") "index"
  d_InvalidStretches_init : FunD K "__init__" "InvalidStretches.__init__" (defArgs s_InvalidStretches_init) (defBody s_InvalidStretches_init) (defScope s_InvalidStretches_init) [] [] (He.ma K (He.ga K "InvalidStretches") "__init__") (fdAt K (He.ma K (He.ga K "InvalidStretches") "__init__"))
  g_InvalidDeeds : mg "InvalidDeeds" = some (.ref (He.ga K "InvalidDeeds"))
  x_InvalidDeeds : xVal K (He.ga K "InvalidDeeds")
  i_InvalidDeeds : XI K (He.ga K "InvalidDeeds") "index"
  d_InvalidDeeds_init : FunD K "__init__" "InvalidDeeds.__init__" (defArgs s_InvalidDeeds_init) (defBody s_InvalidDeeds_init) (defScope s_InvalidDeeds_init) [] [] (He.ma K (He.ga K "InvalidDeeds") "__init__") (fdAt K (He.ma K (He.ga K "InvalidDeeds") "__init__"))
  g_UnknownName : mg "UnknownName" = some (.ref (He.ga K "UnknownName"))
  x_UnknownName : xLook K (He.ga K "UnknownName")
  i_UnknownName : XI K (He.ga K "UnknownName") "given"
  d_UnknownName_init : FunD K "__init__" "UnknownName.__init__" (defArgs s_UnknownName_init) (defBody s_UnknownName_init) (defScope s_UnknownName_init) [] [] (He.ma K (He.ga K "UnknownName") "__init__") (fdAt K (He.ma K (He.ga K "UnknownName") "__init__"))
  g_InUse : mg "InUse" = some (.ref (He.ga K "InUse"))
  x_InUse : xLook K (He.ga K "InUse")
  i_InUse : XI K (He.ga K "InUse") "index"
  d_InUse_init : FunD K "__init__" "InUse.__init__" (defArgs s_InUse_init) (defBody s_InUse_init) (defScope s_InUse_init) [] [] (He.ma K (He.ga K "InUse") "__init__") (fdAt K (He.ma K (He.ga K "InUse") "__init__"))
  g_TooMany : mg "TooMany" = some (.ref (He.ga K "TooMany"))
  x_TooMany : xArith K (He.ga K "TooMany")
  i_TooMany : XI K (He.ga K "TooMany") "most"
  d_TooMany_init : FunD K "__init__" "TooMany.__init__" (defArgs s_TooMany_init) (defBody s_TooMany_init) (defScope s_TooMany_init) [] [] (He.ma K (He.ga K "TooMany") "__init__") (fdAt K (He.ma K (He.ga K "TooMany") "__init__"))
  g_Broken : mg "Broken" = some (.ref (He.ga K "Broken"))
  x_Broken : xArith K (He.ga K "Broken")
  i_Broken : XI K (He.ga K "Broken") "index"
  d_Broken_init : FunD K "__init__" "Broken.__init__" (defArgs s_Broken_init) (defBody s_Broken_init) (defScope s_Broken_init) [] [] (He.ma K (He.ga K "Broken") "__init__") (fdAt K (He.ma K (He.ga K "Broken") "__init__"))
  g_NoLimit : mg "NoLimit" = some (.ref (He.ga K "NoLimit"))
  x_NoLimit : xArith K (He.ga K "NoLimit")
  q_NoLimit : PySem.W.excIn K (He.ga K "NoLimit") (mro1 "ArithmeticError") "ArithmeticError.__new__" = true
  g_NothingToUndo : mg "NothingToUndo" = some (.ref (He.ga K "NothingToUndo"))
  x_NothingToUndo : xArith K (He.ga K "NothingToUndo")
  q_NothingToUndo : PySem.W.excIn K (He.ga K "NothingToUndo") (mro1 "ArithmeticError") "ArithmeticError.__new__" = true
  n_len : mg "len" = none
  n_int : mg "int" = none
  n_divmod : mg "divmod" = none
  n_abs : mg "abs" = none
  n_isinstance : mg "isinstance" = none
  n_range : mg "range" = none
  n_repr : mg "repr" = none
  n_enumerate : mg "enumerate" = none
  n_all : mg "all" = none
  n_max : mg "max" = none
  n_min : mg "min" = none
  n_ValueError : mg "ValueError" = none
  n_LookupError : mg "LookupError" = none
  n_ArithmeticError : mg "ArithmeticError" = none
  k_MOST_OHMS : ∃ t, mg "MOST_OHMS" = some (.int 12 t)
  k_MOST_PIECES : ∃ t, mg "MOST_PIECES" = some (.int 4 t)
  k_MOST_JOINED : ∃ t, mg "MOST_JOINED" = some (.int 8 t)
  k_MOST_KINDS : ∃ t, mg "MOST_KINDS" = some (.int 4 t)
  k_MOST_SECTIONS : ∃ t, mg "MOST_SECTIONS" = some (.int 100 t)
  k_LAST : ∃ t, mg "LAST" = some (.int 1000 t)
  k_GREATEST : ∃ t, mg "GREATEST" = some (.int 1000000000000 t)
  r_WrongValue : KitRow K (He.ga K "WrongValue") tests (rowOf 19 0)
  r_WrongName : KitRow K (He.ga K "WrongName") tests (rowOf 19 1)
  r_NoAnswer : KitRow K (He.ga K "NoAnswer") tests (rowOf 19 2)
  r_NotAPattern : KitRow K (He.ga K "NotAPattern") tests (rowOf 0 0)
  r_NotARun : KitRow K (He.ga K "NotARun") tests (rowOf 1 0)
  r_InvalidResistance : KitRow K (He.ga K "InvalidResistance") tests (rowOf 2 0)
  r_InvalidCount : KitRow K (He.ga K "InvalidCount") tests (rowOf 3 0)
  r_InvalidNumber : KitRow K (He.ga K "InvalidNumber") tests (rowOf 4 0)
  r_InvalidText : KitRow K (He.ga K "InvalidText") tests (rowOf 5 0)
  r_InvalidName : KitRow K (He.ga K "InvalidName") tests (rowOf 6 0)
  r_InvalidClaim : KitRow K (He.ga K "InvalidClaim") tests (rowOf 7 0)
  r_InvalidIndex : KitRow K (He.ga K "InvalidIndex") tests (rowOf 8 0)
  r_InvalidPieces : KitRow K (He.ga K "InvalidPieces") tests (rowOf 9 0)
  r_InvalidKinds : KitRow K (He.ga K "InvalidKinds") tests (rowOf 10 0)
  r_InvalidStretches : KitRow K (He.ga K "InvalidStretches") tests (rowOf 11 0)
  r_InvalidDeeds : KitRow K (He.ga K "InvalidDeeds") tests (rowOf 12 0)
  r_UnknownName : KitRow K (He.ga K "UnknownName") tests (rowOf 13 1)
  r_InUse : KitRow K (He.ga K "InUse") tests (rowOf 14 1)
  r_TooMany : KitRow K (He.ga K "TooMany") tests (rowOf 15 2)
  r_Broken : KitRow K (He.ga K "Broken") tests (rowOf 16 2)
  r_NoLimit : KitRow K (He.ga K "NoLimit") tests (rowOf 17 2)
  r_NothingToUndo : KitRow K (He.ga K "NothingToUndo") tests (rowOf 18 2)
  g_OPEN : mg "OPEN" = some (.ref (He.ga K "OPEN"))
  t_OPEN : He.tupB K "OPEN" [.int 1, .int 0] = true
abbrev FB : Type := PySem.W.Frag → Bool
def facts0 : List FB := [fun K => He.Fa.ok K (.glo "_law_cup"), fun K => He.Fa.ok K (.glo "_law_sip"), fun K => He.Fa.ok K (.glo "_law_pick"), fun K => He.Fa.ok K (.glo "_law_classes"), fun K => He.Fa.ok K (.glo "_law_given"), fun K => He.Fa.ok K (.glo "_law_indexed"), fun K => He.Fa.ok K (.glo "_law_right"), fun K => He.Fa.ok K (.glo "law"), fun K => He.Fa.ok K (.glo "WrongValue"), fun K => xcB K (He.ga K "WrongValue") "ValueError.__new__" (mro1 "ValueError")]
def facts1 : List FB := [fun K => PySem.W.excIn K (He.ga K "WrongValue") (mro1 "ValueError") "ValueError.__new__", fun K => He.Fa.ok K (.glo "WrongName"), fun K => xcB K (He.ga K "WrongName") "LookupError.__new__" (mro1 "LookupError"), fun K => PySem.W.excIn K (He.ga K "WrongName") (mro1 "LookupError") "LookupError.__new__", fun K => He.Fa.ok K (.glo "NoAnswer"), fun K => xcB K (He.ga K "NoAnswer") "ArithmeticError.__new__" (mro1 "ArithmeticError"), fun K => PySem.W.excIn K (He.ga K "NoAnswer") (mro1 "ArithmeticError") "ArithmeticError.__new__", fun K => He.Fa.ok K (.glo "NotAPattern"), fun K => xcB K (He.ga K "NotAPattern") "ValueError.__new__" (mro1 "ValueError"), fun K => xiB K (He.ga K "NotAPattern") "given"]
def facts2 : List FB := [fun K => He.Fa.ok K (.glo "NotARun"), fun K => xcB K (He.ga K "NotARun") "ValueError.__new__" (mro1 "ValueError"), fun K => xiB K (He.ga K "NotARun") "given", fun K => He.Fa.ok K (.glo "InvalidResistance"), fun K => xcB K (He.ga K "InvalidResistance") "ValueError.__new__" (mro1 "ValueError"), fun K => xiB K (He.ga K "InvalidResistance") "given", fun K => He.Fa.ok K (.glo "InvalidCount"), fun K => xcB K (He.ga K "InvalidCount") "ValueError.__new__" (mro1 "ValueError"), fun K => xiB K (He.ga K "InvalidCount") "given", fun K => He.Fa.ok K (.glo "InvalidNumber")]
def facts3 : List FB := [fun K => xcB K (He.ga K "InvalidNumber") "ValueError.__new__" (mro1 "ValueError"), fun K => xiB K (He.ga K "InvalidNumber") "given", fun K => He.Fa.ok K (.glo "InvalidText"), fun K => xcB K (He.ga K "InvalidText") "ValueError.__new__" (mro1 "ValueError"), fun K => xiB K (He.ga K "InvalidText") "given", fun K => He.Fa.ok K (.glo "InvalidName"), fun K => xcB K (He.ga K "InvalidName") "ValueError.__new__" (mro1 "ValueError"), fun K => xiB K (He.ga K "InvalidName") "given", fun K => He.Fa.ok K (.glo "InvalidClaim"), fun K => xcB K (He.ga K "InvalidClaim") "ValueError.__new__" (mro1 "ValueError")]
def facts4 : List FB := [fun K => xiB K (He.ga K "InvalidClaim") "given", fun K => He.Fa.ok K (.glo "InvalidIndex"), fun K => xcB K (He.ga K "InvalidIndex") "ValueError.__new__" (mro1 "ValueError"), fun K => xiB K (He.ga K "InvalidIndex") "given", fun K => He.Fa.ok K (.glo "InvalidPieces"), fun K => xcB K (He.ga K "InvalidPieces") "ValueError.__new__" (mro1 "ValueError"), fun K => xiB K (He.ga K "InvalidPieces") "index", fun K => He.Fa.ok K (.glo "InvalidKinds"), fun K => xcB K (He.ga K "InvalidKinds") "ValueError.__new__" (mro1 "ValueError"), fun K => xiB K (He.ga K "InvalidKinds") "index"]
def facts5 : List FB := [fun K => He.Fa.ok K (.glo "InvalidStretches"), fun K => xcB K (He.ga K "InvalidStretches") "ValueError.__new__" (mro1 "ValueError"), fun K => xiB K (He.ga K "InvalidStretches") "index", fun K => He.Fa.ok K (.glo "InvalidDeeds"), fun K => xcB K (He.ga K "InvalidDeeds") "ValueError.__new__" (mro1 "ValueError"), fun K => xiB K (He.ga K "InvalidDeeds") "index", fun K => He.Fa.ok K (.glo "UnknownName"), fun K => xcB K (He.ga K "UnknownName") "LookupError.__new__" (mro1 "LookupError"), fun K => xiB K (He.ga K "UnknownName") "given", fun K => He.Fa.ok K (.glo "InUse")]
def facts6 : List FB := [fun K => xcB K (He.ga K "InUse") "LookupError.__new__" (mro1 "LookupError"), fun K => xiB K (He.ga K "InUse") "index", fun K => He.Fa.ok K (.glo "TooMany"), fun K => xcB K (He.ga K "TooMany") "ArithmeticError.__new__" (mro1 "ArithmeticError"), fun K => xiB K (He.ga K "TooMany") "most", fun K => He.Fa.ok K (.glo "Broken"), fun K => xcB K (He.ga K "Broken") "ArithmeticError.__new__" (mro1 "ArithmeticError"), fun K => xiB K (He.ga K "Broken") "index", fun K => He.Fa.ok K (.glo "NoLimit"), fun K => xcB K (He.ga K "NoLimit") "ArithmeticError.__new__" (mro1 "ArithmeticError")]
def facts7 : List FB := [fun K => PySem.W.excIn K (He.ga K "NoLimit") (mro1 "ArithmeticError") "ArithmeticError.__new__", fun K => He.Fa.ok K (.glo "NothingToUndo"), fun K => xcB K (He.ga K "NothingToUndo") "ArithmeticError.__new__" (mro1 "ArithmeticError"), fun K => PySem.W.excIn K (He.ga K "NothingToUndo") (mro1 "ArithmeticError") "ArithmeticError.__new__", fun K => He.Fa.ok K (.free "len"), fun K => He.Fa.ok K (.free "int"), fun K => He.Fa.ok K (.free "divmod"), fun K => He.Fa.ok K (.free "abs"), fun K => He.Fa.ok K (.free "isinstance"), fun K => He.Fa.ok K (.free "range")]
def facts8 : List FB := [fun K => He.Fa.ok K (.free "repr"), fun K => He.Fa.ok K (.free "enumerate"), fun K => He.Fa.ok K (.free "all"), fun K => He.Fa.ok K (.free "max"), fun K => He.Fa.ok K (.free "min"), fun K => He.Fa.ok K (.free "ValueError"), fun K => He.Fa.ok K (.free "LookupError"), fun K => He.Fa.ok K (.free "ArithmeticError"), fun K => He.Fa.ok K (.int "MOST_OHMS" 12), fun K => He.Fa.ok K (.int "MOST_PIECES" 4)]
def facts9 : List FB := [fun K => He.Fa.ok K (.int "MOST_JOINED" 8), fun K => He.Fa.ok K (.int "MOST_KINDS" 4), fun K => He.Fa.ok K (.int "MOST_SECTIONS" 100), fun K => He.Fa.ok K (.int "LAST" 1000), fun K => He.Fa.ok K (.int "GREATEST" 1000000000000), fun K => kitB K (He.ga K "WrongValue") tests (rowOf 19 0), fun K => kitB K (He.ga K "WrongName") tests (rowOf 19 1), fun K => kitB K (He.ga K "NoAnswer") tests (rowOf 19 2), fun K => kitB K (He.ga K "NotAPattern") tests (rowOf 0 0), fun K => kitB K (He.ga K "NotARun") tests (rowOf 1 0)]
def facts10 : List FB := [fun K => kitB K (He.ga K "InvalidResistance") tests (rowOf 2 0), fun K => kitB K (He.ga K "InvalidCount") tests (rowOf 3 0), fun K => kitB K (He.ga K "InvalidNumber") tests (rowOf 4 0), fun K => kitB K (He.ga K "InvalidText") tests (rowOf 5 0), fun K => kitB K (He.ga K "InvalidName") tests (rowOf 6 0), fun K => kitB K (He.ga K "InvalidClaim") tests (rowOf 7 0), fun K => kitB K (He.ga K "InvalidIndex") tests (rowOf 8 0), fun K => kitB K (He.ga K "InvalidPieces") tests (rowOf 9 0), fun K => kitB K (He.ga K "InvalidKinds") tests (rowOf 10 0), fun K => kitB K (He.ga K "InvalidStretches") tests (rowOf 11 0)]
def facts11 : List FB := [fun K => kitB K (He.ga K "InvalidDeeds") tests (rowOf 12 0), fun K => kitB K (He.ga K "UnknownName") tests (rowOf 13 1), fun K => kitB K (He.ga K "InUse") tests (rowOf 14 1), fun K => kitB K (He.ga K "TooMany") tests (rowOf 15 2), fun K => kitB K (He.ga K "Broken") tests (rowOf 16 2), fun K => kitB K (He.ga K "NoLimit") tests (rowOf 17 2), fun K => kitB K (He.ga K "NothingToUndo") tests (rowOf 18 2), fun K => He.Fa.ok K (.glo "OPEN"), fun K => He.tupB K "OPEN" [.int 1, .int 0]]
def facts : List FB := facts0 ++ facts1 ++ facts2 ++ facts3 ++ facts4 ++ facts5 ++ facts6 ++ facts7 ++ facts8 ++ facts9 ++ facts10 ++ facts11
def fns0 : List He.DefD := [⟨("_law_cup", none), "_law_cup", "_law_cup", defArgs s__law_cup, defBody s__law_cup, defScope s__law_cup, [], []⟩, ⟨("_law_sip", none), "_law_sip", "_law_sip", defArgs s__law_sip, defBody s__law_sip, defScope s__law_sip, [], []⟩, ⟨("_law_pick", none), "_law_pick", "_law_pick", defArgs s__law_pick, defBody s__law_pick, defScope s__law_pick, [], []⟩, ⟨("_law_classes", none), "_law_classes", "_law_classes", defArgs s__law_classes, defBody s__law_classes, defScope s__law_classes, [], []⟩, ⟨("_law_given", none), "_law_given", "_law_given", defArgs s__law_given, defBody s__law_given, defScope s__law_given, [], []⟩, ⟨("_law_indexed", none), "_law_indexed", "_law_indexed", defArgs s__law_indexed, defBody s__law_indexed, defScope s__law_indexed, [], []⟩, ⟨("_law_right", none), "_law_right", "_law_right", defArgs s__law_right, defBody s__law_right, defScope s__law_right, [], []⟩, ⟨("law", none), "law", "law", defArgs s_law, defBody s_law, defScope s_law, [], []⟩, ⟨("NotAPattern", some "__init__"), "__init__", "NotAPattern.__init__", defArgs s_NotAPattern_init, defBody s_NotAPattern_init, defScope s_NotAPattern_init, [], []⟩, ⟨("NotARun", some "__init__"), "__init__", "NotARun.__init__", defArgs s_NotARun_init, defBody s_NotARun_init, defScope s_NotARun_init, [], []⟩]
def fns1 : List He.DefD := [⟨("InvalidResistance", some "__init__"), "__init__", "InvalidResistance.__init__", defArgs s_InvalidResistance_init, defBody s_InvalidResistance_init, defScope s_InvalidResistance_init, [], []⟩, ⟨("InvalidCount", some "__init__"), "__init__", "InvalidCount.__init__", defArgs s_InvalidCount_init, defBody s_InvalidCount_init, defScope s_InvalidCount_init, [], []⟩, ⟨("InvalidNumber", some "__init__"), "__init__", "InvalidNumber.__init__", defArgs s_InvalidNumber_init, defBody s_InvalidNumber_init, defScope s_InvalidNumber_init, [], []⟩, ⟨("InvalidText", some "__init__"), "__init__", "InvalidText.__init__", defArgs s_InvalidText_init, defBody s_InvalidText_init, defScope s_InvalidText_init, [], []⟩, ⟨("InvalidName", some "__init__"), "__init__", "InvalidName.__init__", defArgs s_InvalidName_init, defBody s_InvalidName_init, defScope s_InvalidName_init, [], []⟩, ⟨("InvalidClaim", some "__init__"), "__init__", "InvalidClaim.__init__", defArgs s_InvalidClaim_init, defBody s_InvalidClaim_init, defScope s_InvalidClaim_init, [], []⟩, ⟨("InvalidIndex", some "__init__"), "__init__", "InvalidIndex.__init__", defArgs s_InvalidIndex_init, defBody s_InvalidIndex_init, defScope s_InvalidIndex_init, [], []⟩, ⟨("InvalidPieces", some "__init__"), "__init__", "InvalidPieces.__init__", defArgs s_InvalidPieces_init, defBody s_InvalidPieces_init, defScope s_InvalidPieces_init, [], []⟩, ⟨("InvalidKinds", some "__init__"), "__init__", "InvalidKinds.__init__", defArgs s_InvalidKinds_init, defBody s_InvalidKinds_init, defScope s_InvalidKinds_init, [], []⟩, ⟨("InvalidStretches", some "__init__"), "__init__", "InvalidStretches.__init__", defArgs s_InvalidStretches_init, defBody s_InvalidStretches_init, defScope s_InvalidStretches_init, [], []⟩]
def fns2 : List He.DefD := [⟨("InvalidDeeds", some "__init__"), "__init__", "InvalidDeeds.__init__", defArgs s_InvalidDeeds_init, defBody s_InvalidDeeds_init, defScope s_InvalidDeeds_init, [], []⟩, ⟨("UnknownName", some "__init__"), "__init__", "UnknownName.__init__", defArgs s_UnknownName_init, defBody s_UnknownName_init, defScope s_UnknownName_init, [], []⟩, ⟨("InUse", some "__init__"), "__init__", "InUse.__init__", defArgs s_InUse_init, defBody s_InUse_init, defScope s_InUse_init, [], []⟩, ⟨("TooMany", some "__init__"), "__init__", "TooMany.__init__", defArgs s_TooMany_init, defBody s_TooMany_init, defScope s_TooMany_init, [], []⟩, ⟨("Broken", some "__init__"), "__init__", "Broken.__init__", defArgs s_Broken_init, defBody s_Broken_init, defScope s_Broken_init, [], []⟩]
def fns : List He.DefD := fns0 ++ fns1 ++ fns2
def chk (K : PySem.W.Frag) : Bool := facts.all fun f => f K
theorem fact {K : PySem.W.Frag} (c : SaysX chk fns K) (i : Nat) {f : FB} (h : facts[i]? = some f := by rfl) : f K = true := List.all_eq_true.mp c.chk f (List.mem_of_getElem? h)
theorem tx_of {K : PySem.W.Frag} {h : Heap} {mg : Str → Option Value} (X : K.In h) (G : h.Ns mainGlobals mg) (c : SaysX chk fns K) : Tx K mg where
  g__law_cup := He.glo_ok X G (fact c 0)
  d__law_cup := c.def_ 0
  g__law_sip := He.glo_ok X G (fact c 1)
  d__law_sip := c.def_ 1
  g__law_pick := He.glo_ok X G (fact c 2)
  d__law_pick := c.def_ 2
  g__law_classes := He.glo_ok X G (fact c 3)
  d__law_classes := c.def_ 3
  g__law_given := He.glo_ok X G (fact c 4)
  d__law_given := c.def_ 4
  g__law_indexed := He.glo_ok X G (fact c 5)
  d__law_indexed := c.def_ 5
  g__law_right := He.glo_ok X G (fact c 6)
  d__law_right := c.def_ 6
  g_law := He.glo_ok X G (fact c 7)
  d_law := c.def_ 7
  g_WrongValue := He.glo_ok X G (fact c 8)
  x_WrongValue := xVal_ok (fact c 9)
  q_WrongValue := (fact c 10)
  g_WrongName := He.glo_ok X G (fact c 11)
  x_WrongName := xLook_ok (fact c 12)
  q_WrongName := (fact c 13)
  g_NoAnswer := He.glo_ok X G (fact c 14)
  x_NoAnswer := xArith_ok (fact c 15)
  q_NoAnswer := (fact c 16)
  g_NotAPattern := He.glo_ok X G (fact c 17)
  x_NotAPattern := xVal_ok (fact c 18)
  i_NotAPattern := xiB_ok (fact c 19)
  d_NotAPattern_init := c.def_ 8
  g_NotARun := He.glo_ok X G (fact c 20)
  x_NotARun := xVal_ok (fact c 21)
  i_NotARun := xiB_ok (fact c 22)
  d_NotARun_init := c.def_ 9
  g_InvalidResistance := He.glo_ok X G (fact c 23)
  x_InvalidResistance := xVal_ok (fact c 24)
  i_InvalidResistance := xiB_ok (fact c 25)
  d_InvalidResistance_init := c.def_ 10
  g_InvalidCount := He.glo_ok X G (fact c 26)
  x_InvalidCount := xVal_ok (fact c 27)
  i_InvalidCount := xiB_ok (fact c 28)
  d_InvalidCount_init := c.def_ 11
  g_InvalidNumber := He.glo_ok X G (fact c 29)
  x_InvalidNumber := xVal_ok (fact c 30)
  i_InvalidNumber := xiB_ok (fact c 31)
  d_InvalidNumber_init := c.def_ 12
  g_InvalidText := He.glo_ok X G (fact c 32)
  x_InvalidText := xVal_ok (fact c 33)
  i_InvalidText := xiB_ok (fact c 34)
  d_InvalidText_init := c.def_ 13
  g_InvalidName := He.glo_ok X G (fact c 35)
  x_InvalidName := xVal_ok (fact c 36)
  i_InvalidName := xiB_ok (fact c 37)
  d_InvalidName_init := c.def_ 14
  g_InvalidClaim := He.glo_ok X G (fact c 38)
  x_InvalidClaim := xVal_ok (fact c 39)
  i_InvalidClaim := xiB_ok (fact c 40)
  d_InvalidClaim_init := c.def_ 15
  g_InvalidIndex := He.glo_ok X G (fact c 41)
  x_InvalidIndex := xVal_ok (fact c 42)
  i_InvalidIndex := xiB_ok (fact c 43)
  d_InvalidIndex_init := c.def_ 16
  g_InvalidPieces := He.glo_ok X G (fact c 44)
  x_InvalidPieces := xVal_ok (fact c 45)
  i_InvalidPieces := xiB_ok (fact c 46)
  d_InvalidPieces_init := c.def_ 17
  g_InvalidKinds := He.glo_ok X G (fact c 47)
  x_InvalidKinds := xVal_ok (fact c 48)
  i_InvalidKinds := xiB_ok (fact c 49)
  d_InvalidKinds_init := c.def_ 18
  g_InvalidStretches := He.glo_ok X G (fact c 50)
  x_InvalidStretches := xVal_ok (fact c 51)
  i_InvalidStretches := xiB_ok (fact c 52)
  d_InvalidStretches_init := c.def_ 19
  g_InvalidDeeds := He.glo_ok X G (fact c 53)
  x_InvalidDeeds := xVal_ok (fact c 54)
  i_InvalidDeeds := xiB_ok (fact c 55)
  d_InvalidDeeds_init := c.def_ 20
  g_UnknownName := He.glo_ok X G (fact c 56)
  x_UnknownName := xLook_ok (fact c 57)
  i_UnknownName := xiB_ok (fact c 58)
  d_UnknownName_init := c.def_ 21
  g_InUse := He.glo_ok X G (fact c 59)
  x_InUse := xLook_ok (fact c 60)
  i_InUse := xiB_ok (fact c 61)
  d_InUse_init := c.def_ 22
  g_TooMany := He.glo_ok X G (fact c 62)
  x_TooMany := xArith_ok (fact c 63)
  i_TooMany := xiB_ok (fact c 64)
  d_TooMany_init := c.def_ 23
  g_Broken := He.glo_ok X G (fact c 65)
  x_Broken := xArith_ok (fact c 66)
  i_Broken := xiB_ok (fact c 67)
  d_Broken_init := c.def_ 24
  g_NoLimit := He.glo_ok X G (fact c 68)
  x_NoLimit := xArith_ok (fact c 69)
  q_NoLimit := (fact c 70)
  g_NothingToUndo := He.glo_ok X G (fact c 71)
  x_NothingToUndo := xArith_ok (fact c 72)
  q_NothingToUndo := (fact c 73)
  n_len := He.free_ok X G (fact c 74)
  n_int := He.free_ok X G (fact c 75)
  n_divmod := He.free_ok X G (fact c 76)
  n_abs := He.free_ok X G (fact c 77)
  n_isinstance := He.free_ok X G (fact c 78)
  n_range := He.free_ok X G (fact c 79)
  n_repr := He.free_ok X G (fact c 80)
  n_enumerate := He.free_ok X G (fact c 81)
  n_all := He.free_ok X G (fact c 82)
  n_max := He.free_ok X G (fact c 83)
  n_min := He.free_ok X G (fact c 84)
  n_ValueError := He.free_ok X G (fact c 85)
  n_LookupError := He.free_ok X G (fact c 86)
  n_ArithmeticError := He.free_ok X G (fact c 87)
  k_MOST_OHMS := He.int_ok X G (fact c 88)
  k_MOST_PIECES := He.int_ok X G (fact c 89)
  k_MOST_JOINED := He.int_ok X G (fact c 90)
  k_MOST_KINDS := He.int_ok X G (fact c 91)
  k_MOST_SECTIONS := He.int_ok X G (fact c 92)
  k_LAST := He.int_ok X G (fact c 93)
  k_GREATEST := He.int_ok X G (fact c 94)
  r_WrongValue := kitB_ok (fact c 95)
  r_WrongName := kitB_ok (fact c 96)
  r_NoAnswer := kitB_ok (fact c 97)
  r_NotAPattern := kitB_ok (fact c 98)
  r_NotARun := kitB_ok (fact c 99)
  r_InvalidResistance := kitB_ok (fact c 100)
  r_InvalidCount := kitB_ok (fact c 101)
  r_InvalidNumber := kitB_ok (fact c 102)
  r_InvalidText := kitB_ok (fact c 103)
  r_InvalidName := kitB_ok (fact c 104)
  r_InvalidClaim := kitB_ok (fact c 105)
  r_InvalidIndex := kitB_ok (fact c 106)
  r_InvalidPieces := kitB_ok (fact c 107)
  r_InvalidKinds := kitB_ok (fact c 108)
  r_InvalidStretches := kitB_ok (fact c 109)
  r_InvalidDeeds := kitB_ok (fact c 110)
  r_UnknownName := kitB_ok (fact c 111)
  r_InUse := kitB_ok (fact c 112)
  r_TooMany := kitB_ok (fact c 113)
  r_Broken := kitB_ok (fact c 114)
  r_NoLimit := kitB_ok (fact c 115)
  r_NothingToUndo := kitB_ok (fact c 116)
  g_OPEN := He.glo_ok X G (fact c 117)
  t_OPEN := (fact c 118)
section
variable {P : Program} {w : World} {K : PySem.W.Frag} {mg : Str → Option Value} {base : Heap}
theorem bn__law_cup (T : Tx K mg) : Binds K (fdAt K (He.ga K "_law_cup")) ["_law_script", "_law_spot"] [] := T.d__law_cup.bindsN fun _ _ _ _ _ _ us hl => match us, hl with | [_, _], _ => rfl
theorem bn__law_sip (T : Tx K mg) : Binds K (fdAt K (He.ga K "_law_sip")) ["_law_cup_here", "_law_many"] [] := T.d__law_sip.bindsN fun _ _ _ _ _ _ us hl => match us, hl with | [_, _], _ => rfl
theorem bn__law_pick (T : Tx K mg) : Binds K (fdAt K (He.ga K "_law_pick")) ["_law_cup_here", "_law_things"] [] := T.d__law_pick.bindsN fun _ _ _ _ _ _ us hl => match us, hl with | [_, _], _ => rfl
theorem bn__law_classes (T : Tx K mg) : Binds K (fdAt K (He.ga K "_law_classes")) ["_law_e"] [] := T.d__law_classes.bindsN fun _ _ _ _ _ _ us hl => match us, hl with | [_], _ => rfl
theorem bn__law_given (T : Tx K mg) : Binds K (fdAt K (He.ga K "_law_given")) ["_law_thing"] [] := T.d__law_given.bindsN fun _ _ _ _ _ _ us hl => match us, hl with | [_], _ => rfl
theorem bn__law_indexed (T : Tx K mg) : Binds K (fdAt K (He.ga K "_law_indexed")) ["_law_thing"] [] := T.d__law_indexed.bindsN fun _ _ _ _ _ _ us hl => match us, hl with | [_], _ => rfl
theorem bn__law_right (T : Tx K mg) : Binds K (fdAt K (He.ga K "_law_right")) ["_law_cup_here"] [] := T.d__law_right.bindsN fun _ _ _ _ _ _ us hl => match us, hl with | [_], _ => rfl
theorem bn_law (T : Tx K mg) : Binds K (fdAt K (He.ga K "law")) ["_law_script"] [] := T.d_law.bindsN fun _ _ _ _ _ _ us hl => match us, hl with | [_], _ => rfl
theorem bn_NotAPattern_init (T : Tx K mg) : Binds K (fdAt K (He.ma K (He.ga K "NotAPattern") "__init__")) ["self", "given"] [] := T.d_NotAPattern_init.bindsN fun _ _ _ _ _ _ us hl => match us, hl with | [_, _], _ => rfl
theorem bn_NotARun_init (T : Tx K mg) : Binds K (fdAt K (He.ma K (He.ga K "NotARun") "__init__")) ["self", "given"] [] := T.d_NotARun_init.bindsN fun _ _ _ _ _ _ us hl => match us, hl with | [_, _], _ => rfl
theorem bn_InvalidResistance_init (T : Tx K mg) : Binds K (fdAt K (He.ma K (He.ga K "InvalidResistance") "__init__")) ["self", "given"] [] := T.d_InvalidResistance_init.bindsN fun _ _ _ _ _ _ us hl => match us, hl with | [_, _], _ => rfl
theorem bn_InvalidCount_init (T : Tx K mg) : Binds K (fdAt K (He.ma K (He.ga K "InvalidCount") "__init__")) ["self", "given"] [] := T.d_InvalidCount_init.bindsN fun _ _ _ _ _ _ us hl => match us, hl with | [_, _], _ => rfl
theorem bn_InvalidNumber_init (T : Tx K mg) : Binds K (fdAt K (He.ma K (He.ga K "InvalidNumber") "__init__")) ["self", "given"] [] := T.d_InvalidNumber_init.bindsN fun _ _ _ _ _ _ us hl => match us, hl with | [_, _], _ => rfl
theorem bn_InvalidText_init (T : Tx K mg) : Binds K (fdAt K (He.ma K (He.ga K "InvalidText") "__init__")) ["self", "given"] [] := T.d_InvalidText_init.bindsN fun _ _ _ _ _ _ us hl => match us, hl with | [_, _], _ => rfl
theorem bn_InvalidName_init (T : Tx K mg) : Binds K (fdAt K (He.ma K (He.ga K "InvalidName") "__init__")) ["self", "given"] [] := T.d_InvalidName_init.bindsN fun _ _ _ _ _ _ us hl => match us, hl with | [_, _], _ => rfl
theorem bn_InvalidClaim_init (T : Tx K mg) : Binds K (fdAt K (He.ma K (He.ga K "InvalidClaim") "__init__")) ["self", "given"] [] := T.d_InvalidClaim_init.bindsN fun _ _ _ _ _ _ us hl => match us, hl with | [_, _], _ => rfl
theorem bn_InvalidIndex_init (T : Tx K mg) : Binds K (fdAt K (He.ma K (He.ga K "InvalidIndex") "__init__")) ["self", "given"] [] := T.d_InvalidIndex_init.bindsN fun _ _ _ _ _ _ us hl => match us, hl with | [_, _], _ => rfl
theorem bn_InvalidPieces_init (T : Tx K mg) : Binds K (fdAt K (He.ma K (He.ga K "InvalidPieces") "__init__")) ["self", "index"] [] := T.d_InvalidPieces_init.bindsN fun _ _ _ _ _ _ us hl => match us, hl with | [_, _], _ => rfl
theorem bn_InvalidKinds_init (T : Tx K mg) : Binds K (fdAt K (He.ma K (He.ga K "InvalidKinds") "__init__")) ["self", "index"] [] := T.d_InvalidKinds_init.bindsN fun _ _ _ _ _ _ us hl => match us, hl with | [_, _], _ => rfl
theorem bn_InvalidStretches_init (T : Tx K mg) : Binds K (fdAt K (He.ma K (He.ga K "InvalidStretches") "__init__")) ["self", "index"] [] := T.d_InvalidStretches_init.bindsN fun _ _ _ _ _ _ us hl => match us, hl with | [_, _], _ => rfl
theorem bn_InvalidDeeds_init (T : Tx K mg) : Binds K (fdAt K (He.ma K (He.ga K "InvalidDeeds") "__init__")) ["self", "index"] [] := T.d_InvalidDeeds_init.bindsN fun _ _ _ _ _ _ us hl => match us, hl with | [_, _], _ => rfl
theorem bn_UnknownName_init (T : Tx K mg) : Binds K (fdAt K (He.ma K (He.ga K "UnknownName") "__init__")) ["self", "given"] [] := T.d_UnknownName_init.bindsN fun _ _ _ _ _ _ us hl => match us, hl with | [_, _], _ => rfl
theorem bn_InUse_init (T : Tx K mg) : Binds K (fdAt K (He.ma K (He.ga K "InUse") "__init__")) ["self", "index"] [] := T.d_InUse_init.bindsN fun _ _ _ _ _ _ us hl => match us, hl with | [_, _], _ => rfl
theorem bn_TooMany_init (T : Tx K mg) : Binds K (fdAt K (He.ma K (He.ga K "TooMany") "__init__")) ["self", "most"] [] := T.d_TooMany_init.bindsN fun _ _ _ _ _ _ us hl => match us, hl with | [_, _], _ => rfl
theorem bn_Broken_init (T : Tx K mg) : Binds K (fdAt K (He.ma K (He.ga K "Broken") "__init__")) ["self", "index"] [] := T.d_Broken_init.bindsN fun _ _ _ _ _ _ us hl => match us, hl with | [_, _], _ => rfl
theorem ok_NotAPattern_init (T : Tx K mg) : FnOk P w K mg base CX0 1 (He.ma K (He.ga K "NotAPattern") "__init__") (fdAt K (He.ma K (He.ga K "NotAPattern") "__init__")) ["self", "given"] (spXinit K (He.ga K "NotAPattern") "given") := ok_xinit T.d_NotAPattern_init T.i_NotAPattern ⟨_, _, _, _, T.x_NotAPattern⟩ sc_NotAPattern_init rfl rfl rfl (by decide) (by decide)
theorem bk_NotAPattern (T : Tx K mg) : ∀ (s : Shared) (z u : Value), K.In s.heap → BindsTo s (fdAt K (He.ma K (He.ga K "NotAPattern") "__init__")) ⟨[z], [("given", u)]⟩ [("self", z), ("given", u)] := fun s z u _ => by
  obtain ⟨oc, od, dV, kV, doc, pm, an, cdv, ct, osl, e, lk, hcd, hD, hK⟩ := T.d_NotAPattern_init.ex
  rw [e]
  rcases hD with ⟨_, rfl⟩ | ⟨e2, _⟩
  · exact .of_eq rfl
  · exact absurd rfl e2
theorem ok_NotARun_init (T : Tx K mg) : FnOk P w K mg base CX0 1 (He.ma K (He.ga K "NotARun") "__init__") (fdAt K (He.ma K (He.ga K "NotARun") "__init__")) ["self", "given"] (spXinit K (He.ga K "NotARun") "given") := ok_xinit T.d_NotARun_init T.i_NotARun ⟨_, _, _, _, T.x_NotARun⟩ sc_NotARun_init rfl rfl rfl (by decide) (by decide)
theorem bk_NotARun (T : Tx K mg) : ∀ (s : Shared) (z u : Value), K.In s.heap → BindsTo s (fdAt K (He.ma K (He.ga K "NotARun") "__init__")) ⟨[z], [("given", u)]⟩ [("self", z), ("given", u)] := fun s z u _ => by
  obtain ⟨oc, od, dV, kV, doc, pm, an, cdv, ct, osl, e, lk, hcd, hD, hK⟩ := T.d_NotARun_init.ex
  rw [e]
  rcases hD with ⟨_, rfl⟩ | ⟨e2, _⟩
  · exact .of_eq rfl
  · exact absurd rfl e2
theorem ok_InvalidResistance_init (T : Tx K mg) : FnOk P w K mg base CX0 1 (He.ma K (He.ga K "InvalidResistance") "__init__") (fdAt K (He.ma K (He.ga K "InvalidResistance") "__init__")) ["self", "given"] (spXinit K (He.ga K "InvalidResistance") "given") := ok_xinit T.d_InvalidResistance_init T.i_InvalidResistance ⟨_, _, _, _, T.x_InvalidResistance⟩ sc_InvalidResistance_init rfl rfl rfl (by decide) (by decide)
theorem bk_InvalidResistance (T : Tx K mg) : ∀ (s : Shared) (z u : Value), K.In s.heap → BindsTo s (fdAt K (He.ma K (He.ga K "InvalidResistance") "__init__")) ⟨[z], [("given", u)]⟩ [("self", z), ("given", u)] := fun s z u _ => by
  obtain ⟨oc, od, dV, kV, doc, pm, an, cdv, ct, osl, e, lk, hcd, hD, hK⟩ := T.d_InvalidResistance_init.ex
  rw [e]
  rcases hD with ⟨_, rfl⟩ | ⟨e2, _⟩
  · exact .of_eq rfl
  · exact absurd rfl e2
theorem ok_InvalidCount_init (T : Tx K mg) : FnOk P w K mg base CX0 1 (He.ma K (He.ga K "InvalidCount") "__init__") (fdAt K (He.ma K (He.ga K "InvalidCount") "__init__")) ["self", "given"] (spXinit K (He.ga K "InvalidCount") "given") := ok_xinit T.d_InvalidCount_init T.i_InvalidCount ⟨_, _, _, _, T.x_InvalidCount⟩ sc_InvalidCount_init rfl rfl rfl (by decide) (by decide)
theorem bk_InvalidCount (T : Tx K mg) : ∀ (s : Shared) (z u : Value), K.In s.heap → BindsTo s (fdAt K (He.ma K (He.ga K "InvalidCount") "__init__")) ⟨[z], [("given", u)]⟩ [("self", z), ("given", u)] := fun s z u _ => by
  obtain ⟨oc, od, dV, kV, doc, pm, an, cdv, ct, osl, e, lk, hcd, hD, hK⟩ := T.d_InvalidCount_init.ex
  rw [e]
  rcases hD with ⟨_, rfl⟩ | ⟨e2, _⟩
  · exact .of_eq rfl
  · exact absurd rfl e2
theorem ok_InvalidNumber_init (T : Tx K mg) : FnOk P w K mg base CX0 1 (He.ma K (He.ga K "InvalidNumber") "__init__") (fdAt K (He.ma K (He.ga K "InvalidNumber") "__init__")) ["self", "given"] (spXinit K (He.ga K "InvalidNumber") "given") := ok_xinit T.d_InvalidNumber_init T.i_InvalidNumber ⟨_, _, _, _, T.x_InvalidNumber⟩ sc_InvalidNumber_init rfl rfl rfl (by decide) (by decide)
theorem bk_InvalidNumber (T : Tx K mg) : ∀ (s : Shared) (z u : Value), K.In s.heap → BindsTo s (fdAt K (He.ma K (He.ga K "InvalidNumber") "__init__")) ⟨[z], [("given", u)]⟩ [("self", z), ("given", u)] := fun s z u _ => by
  obtain ⟨oc, od, dV, kV, doc, pm, an, cdv, ct, osl, e, lk, hcd, hD, hK⟩ := T.d_InvalidNumber_init.ex
  rw [e]
  rcases hD with ⟨_, rfl⟩ | ⟨e2, _⟩
  · exact .of_eq rfl
  · exact absurd rfl e2
theorem ok_InvalidText_init (T : Tx K mg) : FnOk P w K mg base CX0 1 (He.ma K (He.ga K "InvalidText") "__init__") (fdAt K (He.ma K (He.ga K "InvalidText") "__init__")) ["self", "given"] (spXinit K (He.ga K "InvalidText") "given") := ok_xinit T.d_InvalidText_init T.i_InvalidText ⟨_, _, _, _, T.x_InvalidText⟩ sc_InvalidText_init rfl rfl rfl (by decide) (by decide)
theorem bk_InvalidText (T : Tx K mg) : ∀ (s : Shared) (z u : Value), K.In s.heap → BindsTo s (fdAt K (He.ma K (He.ga K "InvalidText") "__init__")) ⟨[z], [("given", u)]⟩ [("self", z), ("given", u)] := fun s z u _ => by
  obtain ⟨oc, od, dV, kV, doc, pm, an, cdv, ct, osl, e, lk, hcd, hD, hK⟩ := T.d_InvalidText_init.ex
  rw [e]
  rcases hD with ⟨_, rfl⟩ | ⟨e2, _⟩
  · exact .of_eq rfl
  · exact absurd rfl e2
theorem ok_InvalidName_init (T : Tx K mg) : FnOk P w K mg base CX0 1 (He.ma K (He.ga K "InvalidName") "__init__") (fdAt K (He.ma K (He.ga K "InvalidName") "__init__")) ["self", "given"] (spXinit K (He.ga K "InvalidName") "given") := ok_xinit T.d_InvalidName_init T.i_InvalidName ⟨_, _, _, _, T.x_InvalidName⟩ sc_InvalidName_init rfl rfl rfl (by decide) (by decide)
theorem bk_InvalidName (T : Tx K mg) : ∀ (s : Shared) (z u : Value), K.In s.heap → BindsTo s (fdAt K (He.ma K (He.ga K "InvalidName") "__init__")) ⟨[z], [("given", u)]⟩ [("self", z), ("given", u)] := fun s z u _ => by
  obtain ⟨oc, od, dV, kV, doc, pm, an, cdv, ct, osl, e, lk, hcd, hD, hK⟩ := T.d_InvalidName_init.ex
  rw [e]
  rcases hD with ⟨_, rfl⟩ | ⟨e2, _⟩
  · exact .of_eq rfl
  · exact absurd rfl e2
theorem ok_InvalidClaim_init (T : Tx K mg) : FnOk P w K mg base CX0 1 (He.ma K (He.ga K "InvalidClaim") "__init__") (fdAt K (He.ma K (He.ga K "InvalidClaim") "__init__")) ["self", "given"] (spXinit K (He.ga K "InvalidClaim") "given") := ok_xinit T.d_InvalidClaim_init T.i_InvalidClaim ⟨_, _, _, _, T.x_InvalidClaim⟩ sc_InvalidClaim_init rfl rfl rfl (by decide) (by decide)
theorem bk_InvalidClaim (T : Tx K mg) : ∀ (s : Shared) (z u : Value), K.In s.heap → BindsTo s (fdAt K (He.ma K (He.ga K "InvalidClaim") "__init__")) ⟨[z], [("given", u)]⟩ [("self", z), ("given", u)] := fun s z u _ => by
  obtain ⟨oc, od, dV, kV, doc, pm, an, cdv, ct, osl, e, lk, hcd, hD, hK⟩ := T.d_InvalidClaim_init.ex
  rw [e]
  rcases hD with ⟨_, rfl⟩ | ⟨e2, _⟩
  · exact .of_eq rfl
  · exact absurd rfl e2
theorem ok_InvalidIndex_init (T : Tx K mg) : FnOk P w K mg base CX0 1 (He.ma K (He.ga K "InvalidIndex") "__init__") (fdAt K (He.ma K (He.ga K "InvalidIndex") "__init__")) ["self", "given"] (spXinit K (He.ga K "InvalidIndex") "given") := ok_xinit T.d_InvalidIndex_init T.i_InvalidIndex ⟨_, _, _, _, T.x_InvalidIndex⟩ sc_InvalidIndex_init rfl rfl rfl (by decide) (by decide)
theorem bk_InvalidIndex (T : Tx K mg) : ∀ (s : Shared) (z u : Value), K.In s.heap → BindsTo s (fdAt K (He.ma K (He.ga K "InvalidIndex") "__init__")) ⟨[z], [("given", u)]⟩ [("self", z), ("given", u)] := fun s z u _ => by
  obtain ⟨oc, od, dV, kV, doc, pm, an, cdv, ct, osl, e, lk, hcd, hD, hK⟩ := T.d_InvalidIndex_init.ex
  rw [e]
  rcases hD with ⟨_, rfl⟩ | ⟨e2, _⟩
  · exact .of_eq rfl
  · exact absurd rfl e2
theorem ok_InvalidPieces_init (T : Tx K mg) : FnOk P w K mg base CX0 1 (He.ma K (He.ga K "InvalidPieces") "__init__") (fdAt K (He.ma K (He.ga K "InvalidPieces") "__init__")) ["self", "index"] (spXinit K (He.ga K "InvalidPieces") "index") := ok_xinit T.d_InvalidPieces_init T.i_InvalidPieces ⟨_, _, _, _, T.x_InvalidPieces⟩ sc_InvalidPieces_init rfl rfl rfl (by decide) (by decide)
theorem bk_InvalidPieces (T : Tx K mg) : ∀ (s : Shared) (z u : Value), K.In s.heap → BindsTo s (fdAt K (He.ma K (He.ga K "InvalidPieces") "__init__")) ⟨[z], [("index", u)]⟩ [("self", z), ("index", u)] := fun s z u _ => by
  obtain ⟨oc, od, dV, kV, doc, pm, an, cdv, ct, osl, e, lk, hcd, hD, hK⟩ := T.d_InvalidPieces_init.ex
  rw [e]
  rcases hD with ⟨_, rfl⟩ | ⟨e2, _⟩
  · exact .of_eq rfl
  · exact absurd rfl e2
theorem ok_InvalidKinds_init (T : Tx K mg) : FnOk P w K mg base CX0 1 (He.ma K (He.ga K "InvalidKinds") "__init__") (fdAt K (He.ma K (He.ga K "InvalidKinds") "__init__")) ["self", "index"] (spXinit K (He.ga K "InvalidKinds") "index") := ok_xinit T.d_InvalidKinds_init T.i_InvalidKinds ⟨_, _, _, _, T.x_InvalidKinds⟩ sc_InvalidKinds_init rfl rfl rfl (by decide) (by decide)
theorem bk_InvalidKinds (T : Tx K mg) : ∀ (s : Shared) (z u : Value), K.In s.heap → BindsTo s (fdAt K (He.ma K (He.ga K "InvalidKinds") "__init__")) ⟨[z], [("index", u)]⟩ [("self", z), ("index", u)] := fun s z u _ => by
  obtain ⟨oc, od, dV, kV, doc, pm, an, cdv, ct, osl, e, lk, hcd, hD, hK⟩ := T.d_InvalidKinds_init.ex
  rw [e]
  rcases hD with ⟨_, rfl⟩ | ⟨e2, _⟩
  · exact .of_eq rfl
  · exact absurd rfl e2
theorem ok_InvalidStretches_init (T : Tx K mg) : FnOk P w K mg base CX0 1 (He.ma K (He.ga K "InvalidStretches") "__init__") (fdAt K (He.ma K (He.ga K "InvalidStretches") "__init__")) ["self", "index"] (spXinit K (He.ga K "InvalidStretches") "index") := ok_xinit T.d_InvalidStretches_init T.i_InvalidStretches ⟨_, _, _, _, T.x_InvalidStretches⟩ sc_InvalidStretches_init rfl rfl rfl (by decide) (by decide)
theorem bk_InvalidStretches (T : Tx K mg) : ∀ (s : Shared) (z u : Value), K.In s.heap → BindsTo s (fdAt K (He.ma K (He.ga K "InvalidStretches") "__init__")) ⟨[z], [("index", u)]⟩ [("self", z), ("index", u)] := fun s z u _ => by
  obtain ⟨oc, od, dV, kV, doc, pm, an, cdv, ct, osl, e, lk, hcd, hD, hK⟩ := T.d_InvalidStretches_init.ex
  rw [e]
  rcases hD with ⟨_, rfl⟩ | ⟨e2, _⟩
  · exact .of_eq rfl
  · exact absurd rfl e2
theorem ok_InvalidDeeds_init (T : Tx K mg) : FnOk P w K mg base CX0 1 (He.ma K (He.ga K "InvalidDeeds") "__init__") (fdAt K (He.ma K (He.ga K "InvalidDeeds") "__init__")) ["self", "index"] (spXinit K (He.ga K "InvalidDeeds") "index") := ok_xinit T.d_InvalidDeeds_init T.i_InvalidDeeds ⟨_, _, _, _, T.x_InvalidDeeds⟩ sc_InvalidDeeds_init rfl rfl rfl (by decide) (by decide)
theorem bk_InvalidDeeds (T : Tx K mg) : ∀ (s : Shared) (z u : Value), K.In s.heap → BindsTo s (fdAt K (He.ma K (He.ga K "InvalidDeeds") "__init__")) ⟨[z], [("index", u)]⟩ [("self", z), ("index", u)] := fun s z u _ => by
  obtain ⟨oc, od, dV, kV, doc, pm, an, cdv, ct, osl, e, lk, hcd, hD, hK⟩ := T.d_InvalidDeeds_init.ex
  rw [e]
  rcases hD with ⟨_, rfl⟩ | ⟨e2, _⟩
  · exact .of_eq rfl
  · exact absurd rfl e2
theorem ok_UnknownName_init (T : Tx K mg) : FnOk P w K mg base CX0 1 (He.ma K (He.ga K "UnknownName") "__init__") (fdAt K (He.ma K (He.ga K "UnknownName") "__init__")) ["self", "given"] (spXinit K (He.ga K "UnknownName") "given") := ok_xinit T.d_UnknownName_init T.i_UnknownName ⟨_, _, _, _, T.x_UnknownName⟩ sc_UnknownName_init rfl rfl rfl (by decide) (by decide)
theorem bk_UnknownName (T : Tx K mg) : ∀ (s : Shared) (z u : Value), K.In s.heap → BindsTo s (fdAt K (He.ma K (He.ga K "UnknownName") "__init__")) ⟨[z], [("given", u)]⟩ [("self", z), ("given", u)] := fun s z u _ => by
  obtain ⟨oc, od, dV, kV, doc, pm, an, cdv, ct, osl, e, lk, hcd, hD, hK⟩ := T.d_UnknownName_init.ex
  rw [e]
  rcases hD with ⟨_, rfl⟩ | ⟨e2, _⟩
  · exact .of_eq rfl
  · exact absurd rfl e2
theorem ok_InUse_init (T : Tx K mg) : FnOk P w K mg base CX0 1 (He.ma K (He.ga K "InUse") "__init__") (fdAt K (He.ma K (He.ga K "InUse") "__init__")) ["self", "index"] (spXinit K (He.ga K "InUse") "index") := ok_xinit T.d_InUse_init T.i_InUse ⟨_, _, _, _, T.x_InUse⟩ sc_InUse_init rfl rfl rfl (by decide) (by decide)
theorem bk_InUse (T : Tx K mg) : ∀ (s : Shared) (z u : Value), K.In s.heap → BindsTo s (fdAt K (He.ma K (He.ga K "InUse") "__init__")) ⟨[z], [("index", u)]⟩ [("self", z), ("index", u)] := fun s z u _ => by
  obtain ⟨oc, od, dV, kV, doc, pm, an, cdv, ct, osl, e, lk, hcd, hD, hK⟩ := T.d_InUse_init.ex
  rw [e]
  rcases hD with ⟨_, rfl⟩ | ⟨e2, _⟩
  · exact .of_eq rfl
  · exact absurd rfl e2
theorem ok_TooMany_init (T : Tx K mg) : FnOk P w K mg base CX0 1 (He.ma K (He.ga K "TooMany") "__init__") (fdAt K (He.ma K (He.ga K "TooMany") "__init__")) ["self", "most"] (spXinit K (He.ga K "TooMany") "most") := ok_xinit T.d_TooMany_init T.i_TooMany ⟨_, _, _, _, T.x_TooMany⟩ sc_TooMany_init rfl rfl rfl (by decide) (by decide)
theorem bk_TooMany (T : Tx K mg) : ∀ (s : Shared) (z u : Value), K.In s.heap → BindsTo s (fdAt K (He.ma K (He.ga K "TooMany") "__init__")) ⟨[z], [("most", u)]⟩ [("self", z), ("most", u)] := fun s z u _ => by
  obtain ⟨oc, od, dV, kV, doc, pm, an, cdv, ct, osl, e, lk, hcd, hD, hK⟩ := T.d_TooMany_init.ex
  rw [e]
  rcases hD with ⟨_, rfl⟩ | ⟨e2, _⟩
  · exact .of_eq rfl
  · exact absurd rfl e2
theorem ok_Broken_init (T : Tx K mg) : FnOk P w K mg base CX0 1 (He.ma K (He.ga K "Broken") "__init__") (fdAt K (He.ma K (He.ga K "Broken") "__init__")) ["self", "index"] (spXinit K (He.ga K "Broken") "index") := ok_xinit T.d_Broken_init T.i_Broken ⟨_, _, _, _, T.x_Broken⟩ sc_Broken_init rfl rfl rfl (by decide) (by decide)
theorem bk_Broken (T : Tx K mg) : ∀ (s : Shared) (z u : Value), K.In s.heap → BindsTo s (fdAt K (He.ma K (He.ga K "Broken") "__init__")) ⟨[z], [("index", u)]⟩ [("self", z), ("index", u)] := fun s z u _ => by
  obtain ⟨oc, od, dV, kV, doc, pm, an, cdv, ct, osl, e, lk, hcd, hD, hK⟩ := T.d_Broken_init.ex
  rw [e]
  rcases hD with ⟨_, rfl⟩ | ⟨e2, _⟩
  · exact .of_eq rfl
  · exact absurd rfl e2
end
end RG

set_option Elab.async false
set_option linter.all false
set_option maxRecDepth 100000
set_option maxHeartbeats 4000000
namespace RG
open PySem PySem.Spec PyProof.Rows L2
/-- all but c stands as it stood -/
def Chg (c : Addr) (H H' : Hp) : Prop := ∀ x o, x ≠ c → H x = some o → H' x = some o
def Ext (H H' : Hp) : Prop := ∀ x o, H x = some o → H' x = some o
theorem Chg.refl (c : Addr) (H : Hp) : Chg c H H := fun _ _ _ h => h
theorem Ext.refl (H : Hp) : Ext H H := fun _ _ h => h
theorem Ext.trans {H H1 H2 : Hp} (a : Ext H H1) (b : Ext H1 H2) : Ext H H2 := fun x o h => b x o (a x o h)
theorem Chg.trans {c : Addr} {H H1 H2 : Hp} (a : Chg c H H1) (b : Chg c H1 H2) : Chg c H H2 := fun x o n h => b x o n (a x o n h)
theorem Ext.chg {c : Addr} {H H1 : Hp} (a : Ext H H1) : Chg c H H1 := fun x o _ h => a x o h
theorem Chg.set {c : Addr} {H H1 : Hp} {o : HO} (a : Chg c H H1) : Chg c H (upd H1 c o) := fun x u n h => by
  rw [upd_ne n]
  exact a x u n h
theorem Chg.new {c p : Addr} {H H1 : Hp} {o : HO} (a : Chg c H H1) (hp : H1 p = none) : Chg c H (upd H1 p o) := fun x u n h => by
  have z := a x u n h
  rw [upd_ne (ne_of_none z hp)]
  exact z
theorem Ext.new {p : Addr} {H H1 : Hp} {o : HO} (a : Ext H H1) (hp : H1 p = none) : Ext H (upd H1 p o) := fun x u h => by
  have z := a x u h
  rw [upd_ne (ne_of_none z hp)]
  exact z
/-- a thing that H did not have may change -/
theorem Ext.mut {p : Addr} {H H1 : Hp} {o : HO} (a : Ext H H1) (hp : H p = none) : Ext H (upd H1 p o) := fun x u h => by
  rw [upd_ne (ne_of_none h hp)]
  exact a x u h
theorem Ext.free {H H1 : Hp} {p : Addr} (a : Ext H H1) (h : H1 p = none) : H p = none := by
  cases q : H p with
  | none => rfl
  | some o =>
    rw [a p o q] at h
    cases h
theorem Ext.rd {H H1 : Hp} {a : Addr} {u : HO} (e : Ext H H1) (h : Rd H a u) : Rd H1 a u := by
  rcases h with h | ⟨o, h⟩
  · exact .inl (e a _ h)
  · exact .inr ⟨o, e a _ h⟩
theorem Ext.l {K : PySem.W.Frag} {H H1 : Hp} {a : Addr} {xs : List V} (e : Ext H H1) (h : SqL K H a xs) : SqL K H1 a xs := by
  rcases h with h | h
  · exact .inl (e.rd h)
  · exact .inr h
theorem Ext.t {K : PySem.W.Frag} {H H1 : Hp} {a : Addr} {xs : List V} (e : Ext H H1) (h : SqT K H a xs) : SqT K H1 a xs := by
  rcases h with h | h
  · exact .inl (e.rd h)
  · exact .inr h
theorem lstL {K : PySem.W.Frag} {H : Hp} {a : Addr} {xs : List V} (h : H a = some (.lst xs)) : SqL K H a xs := .inl (.inl h)
theorem tupT {K : PySem.W.Frag} {H : Hp} {a : Addr} {xs : List V} (h : H a = some (.tup xs)) : SqT K H a xs := .inl (.inl h)
theorem Chg.l {K : PySem.W.Frag} {c : Addr} {H H1 : Hp} {a : Addr} {xs : List V} (e : Chg c H H1) (n : a ≠ c) (h : SqL K H a xs) : SqL K H1 a xs := by
  rcases h with (h | ⟨o, h⟩) | h
  · exact .inl (.inl (e a _ n h))
  · exact .inl (.inr ⟨o, e a _ n h⟩)
  · exact .inr h
/-- a cup -/
def Cup (H : Hp) (c : Addr) : Prop := ∃ a b : Int, H c = some (.lst [.int a, .int b]) ∧ 0 ≤ b
def spSip : Sp := fun vs H Q _ => ∃ (c : Addr) (m : Int), vs = [.ref c, .int m] ∧ Cup H c ∧ 0 < m ∧ m < 1073741824 ∧ ∀ r H', 0 ≤ r → r < m → Cup H' c → Chg c H H' → Q (.int r) H'
def spPick (K : PySem.W.Frag) : Sp := fun vs H Q _ => ∃ (c l : Addr) (xs : List V), vs = [.ref c, .ref l] ∧ Cup H c ∧ SqL K H l xs ∧ l ≠ c ∧ 0 < xs.length ∧ xs.length < 1000 ∧ ∀ v H', v ∈ xs → Cup H' c → Chg c H H' → Q v H'
def spCup (K : PySem.W.Frag) : Sp := fun vs H Q _ => ∃ (a : Addr) (ns : List Int) (i : Int), vs = [.ref a, .int i] ∧ SqL K H a (ns.map V.int) ∧ ns.length ≤ 63 ∧ 0 ≤ i ∧ i < 1000 ∧ ∀ c H', H c = none → Ext H H' → Cup H' c → Q (.ref c) H'
section
variable {P : Program} {w : World} {K : PySem.W.Frag} {mg : Str → Option Value} {base : Heap}
theorem ok__law_sip (T : Tx K mg) : FnOk P w K mg base CX0 1 (He.ga K "_law_sip") (fdAt K (He.ga K "_law_sip")) ["_law_cup_here", "_law_many"] spSip := by
  refine T.d__law_sip.ok sc__law_sip (fun vs H Q E h => ?_) (fun cdv A outer s H vs Q E hr h => ?_)
  · obtain ⟨c, m, rfl, _⟩ := h
    rfl
  · obtain ⟨c, m, rfl, ⟨a, b, hc, hb⟩, hm, hm2, k⟩ := h
    refine ⟨_, PSs.nox (pss_cons (ps_asg (pe_op op_mod (pe_callTy call_int1 (by rfl) T.n_int (by decide +kernel) (pa_cons (pe_op op_add (pe_op op_mul (pe_ix (r := rIxL K) ix_list (pv 0) pe_int (fun _ _ => rfl)) pe_int) pe_int) pa_nil)) pe_int) (pg_sub (pv 0) pe_int set_list)) (pss_cons (ps_if (pt_cmpR op_gt (pe_ix (r := rIxL K) ix_list (pv 0) pe_int (fun _ _ => rfl)) pe_int (nomark _)) (pss_cons (ps_asg (pe_callB call_divmod (by rfl) T.n_divmod (by decide +kernel) (pa_cons (pe_ix (r := rIxL K) ix_list (pv 0) pe_int (fun _ _ => rfl)) (pa_cons (pv 1) pa_nil))) (pg_tup rfl (pgs_cons (pg_sub (pv 0) pe_int set_list) (pgs_cons (pg_name (i := 2) sc__law_sip.nd rfl (Or.inl rfl)) pgs_nil)))) (pss_one (ps_ret (pv 2)))) pss_nil) (pss_one (ps_ret (pe_op op_mod (pe_callTy call_int1 (by rfl) T.n_int (by decide +kernel) (pa_cons (pe_op op_fdiv (pe_ix (r := rIxL K) ix_list (pv 0) pe_int (fun _ _ => rfl)) pe_int) pa_nil)) (pv 1)))))), ?_⟩
    refine ⟨_, rfl, c, _, 0, _, rfl, rfl, lstL hc, rfl, _, _, rfl, rfl, .inr ⟨by decide, by decide⟩, _, _, rfl, rfl, .inl ⟨_, rfl, _, _, rfl, rfl, (by show (0 : Int) < 2147483629; decide), _, rfl, c, _, 0, 0, rfl, rfl, hc, rfl, ?_⟩⟩
    refine ⟨_, rfl, c, _, 1, _, rfl, rfl, lstL upd_same, rfl, _, _, rfl, rfl, _, rfl, ite2 (fun hpos => ?_) (fun hneg => ?_)⟩
    · have h0 : 0 < b := of_decide_eq_true hpos
      refine ⟨_, rfl, c, _, 1, _, rfl, rfl, lstL upd_same, rfl, _, rfl, _, _, rfl, ⟨hm, hm2⟩, fun p hp => ?_⟩
      have npc : c ≠ p := fun z => by
        rw [← z, upd_same] at hp
        cases hp
      refine ⟨_, _, rfl, tupT upd_same, rfl, _, _, rfl, ⟨_, rfl, c, _, 1, 1, rfl, rfl, (upd_ne npc).trans upd_same, rfl, ⟨_, _, rfl, ⟨rfl, ⟨_, rfl, ?_⟩⟩⟩⟩⟩
      refine k _ _ (Int.emod_nonneg _ (by omega)) (Int.emod_lt_of_pos _ hm) ⟨_, _, upd_same, Int.ediv_nonneg (by omega) (by omega)⟩ ?_
      exact Chg.set (Chg.new (Chg.set (Chg.refl c H)) hp)
    · refine ⟨_, rfl, c, _, 0, _, rfl, rfl, lstL upd_same, rfl, _, _, rfl, rfl, ⟨by decide, by decide⟩, .inl ⟨_, rfl, _, rfl, _, _, rfl, rfl, hm, ?_⟩⟩
      exact k _ _ (Int.emod_nonneg _ (by omega)) (Int.emod_lt_of_pos _ hm) ⟨_, _, upd_same, hb⟩ (Chg.set (Chg.refl c H))
theorem ok__law_pick (T : Tx K mg) : FnOk P w K mg base CX0 2 (He.ga K "_law_pick") (fdAt K (He.ga K "_law_pick")) ["_law_cup_here", "_law_things"] (spPick K) := by
  refine T.d__law_pick.ok sc__law_pick (fun vs H Q E h => ?_) (fun cdv A outer s H vs Q E hr h => ?_)
  · obtain ⟨c, l, xs, rfl, _⟩ := h
    rfl
  · obtain ⟨c, l, xs, rfl, hc, hl, n, h0, h1, k⟩ := h
    refine ⟨_, PSs.nox (pss_one (ps_ret (pe_ix (r := rIxL K) ix_list (pv 1) (pe_call (ok__law_sip T) (hr.mono (by decide)) rfl T.g__law_sip T.d__law_sip.kp (bn__law_sip T) .nil pass0 (pa_cons (pv 0) (pa_cons (pe_callB call_len_seq (by rfl) T.n_len PySem.boot_len (pa_cons (pv 1) pa_nil)) pa_nil))) (fun _ _ => rfl)))), ?_⟩
    refine ⟨_, rfl, _, rfl, _, rfl, l, xs, rfl, .inl hl, c, _, rfl, hc, by omega, by omega, fun r H' r0 r1 hc' ch => ?_⟩
    obtain ⟨i, rfl⟩ : ∃ i : Nat, r = (i : Int) := ⟨r.toNat, by omega⟩
    have hi : i < xs.length := by omega
    refine ⟨l, xs, _, xs[i], rfl, rfl, ch.l n hl, atI_nat (by simp [hi]), ?_⟩
    exact k _ _ (List.getElem_mem hi) hc' ch
theorem ok__law_cup (T : Tx K mg) : FnOk P w K mg base CX0 1 (He.ga K "_law_cup") (fdAt K (He.ga K "_law_cup")) ["_law_script", "_law_spot"] (spCup K) := by
  refine T.d__law_cup.ok sc__law_cup (fun vs H Q E h => ?_) (fun cdv A outer s H vs Q E hr h => ?_)
  · obtain ⟨a, ns, i, rfl, _⟩ := h
    rfl
  · obtain ⟨a, ns, i, rfl, hS, hl, h0, h1, k⟩ := h
    refine ⟨_, PSs.nox (pss_cons (ps_set (i := 2) sc__law_cup.nd rfl (Or.inl rfl) (pe_mid (pe_ifExp (pt_cmpR op_lt (pv 1) (pe_callB call_len_seq (by rfl) T.n_len PySem.boot_len (pa_cons (pv 0) pa_nil)) (nomark _)) (pe_ix (r := rIxL K) ix_list (pv 0) (pv 1) (fun _ _ => rfl)) (pe_op op_add (pe_op op_mul pe_int (pv 1)) pe_int)))) (pss_cons (ps_for PassesOwn.never rfl (pi_list (pe_mid (pe_ifExp (pt_cmpR op_ge (pv 1) (pe_callB call_len_seq (by rfl) T.n_len PySem.boot_len (pa_cons (pv 0) pa_nil)) (nomark _)) (pe_slice sl_list (pv 0) po_none (po_some pe_int)) (pe_lst pa_nil)))) (pg_name (i := 3) sc__law_cup.nd rfl (Or.inl rfl)) (pss_one (ps_set (i := 2) sc__law_cup.nd rfl (Or.inl rfl) (pe_op op_mod (pe_callTy call_int1 (by rfl) T.n_int (by decide +kernel) (pa_cons (pe_op op_add (pe_op op_mul (pv 2) pe_int) (pv 3)) pa_nil)) pe_int)))) (pss_one (ps_ret (pe_lst (pa_cons (pe_op op_mod (pe_callTy call_int1 (by rfl) T.n_int (by decide +kernel) (pa_cons (pe_op op_add (pe_op op_add (pe_op op_mul (pv 2) pe_int) (pe_op op_mul pe_int (pv 1))) pe_int) pa_nil)) pe_int) (pa_cons (pe_mid (pe_ifExp (PW.pt (pw_or (pt_cmpR op_lt (pv 2) pe_int (nomark _)) (pw_or1 (pt_cmpR op_ge (pv 2) (pe_op op_pow pe_int pe_int) (nomark _))))) (pe_callB call_abs (by rfl) T.n_abs (by decide +kernel) (pa_cons (pv 2) pa_nil)) pe_int)) pa_nil))))))), ?_⟩
    have hlen : (ns.map V.int).length = ns.length := List.length_map ..
    refine ⟨fun v H' => ∃ n : Int, v = .int n ∧ H' = H, ?_, ?_⟩
    · refine ⟨_, rfl, _, rfl, a, _, rfl, .inl hS, _, _, rfl, rfl, _, rfl, ite2 (fun ht => ?_) (fun hf => ?_)⟩
      · have h2 : i < ((ns.map V.int).length : Nat) := of_decide_eq_true ht
        rw [hlen] at h2
        have h3 : i.toNat < ns.length := by omega
        obtain ⟨j, rfl⟩ : ∃ j : Nat, i = (j : Int) := ⟨i.toNat, by omega⟩
        have h4 : j < ns.length := by omega
        exact ⟨_, rfl, _, rfl, a, _, _, .int ns[j], rfl, rfl, hS, atI_nat (by rw [List.getElem?_map]; simp [h4]), _, rfl, rfl⟩
      · exact ⟨_, rfl, _, _, rfl, rfl, .inl ⟨by decide, by decide⟩, _, _, rfl, rfl, _, rfl, rfl⟩
    · rintro v H' ⟨n, rfl, rfl⟩
      refine ⟨fun v H1 => ∃ p xs, v = .ref p ∧ AllInt xs ∧ SqL K H1 p xs ∧ Ext H' H1, ?_, ?_⟩
      · refine ⟨_, rfl, _, rfl, a, _, rfl, .inl hS, _, _, rfl, rfl, _, rfl, ite2 (fun ht => ?_) (fun hf => ?_)⟩
        · refine ⟨_, rfl, _, rfl, a, _, rfl, hS, fun p hp => ⟨p, _, rfl, fun x hx => ?_, lstL upd_same, Ext.new (Ext.refl _) hp⟩⟩
          exact allInt_map ns x (cutV_mem hx)
        · exact ⟨Nat.zero_le _, fun p hp => ⟨p, _, rfl, fun x hx => absurd hx List.not_mem_nil, lstL upd_same, Ext.new (Ext.refl _) hp⟩⟩
      · rintro v H1 ⟨p, xs, rfl, hall, hp, ex⟩
        refine ⟨p, rfl, ⟨_, hp⟩, for_list (K := K) (a := p) (xs := xs) (fun j σ H2 => ∃ (z : Int) (o : Option V), σ = [some (.ref a), some (.int i), some (.int z), o] ∧ H2 = H1) ⟨n, none, rfl, rfl⟩ (fun j σ H2 _ ⟨_, _, _, e⟩ => by rw [e]; exact hp) ?_ ?_⟩
        · rintro j x σ H2 hx ⟨z, o, rfl, rfl⟩
          obtain ⟨y, rfl⟩ := hall x (List.mem_of_getElem? hx)
          exact ⟨_, rfl, _, _, rfl, rfl, .inr ⟨by decide, by decide⟩, _, rfl, _, _, rfl, rfl, .inl ⟨_, rfl, _, _, rfl, rfl, (by show (0 : Int) < 1000000007; decide), _, _, rfl, rfl⟩⟩
        · rintro σ H2 ⟨z, o, rfl, rfl⟩
          refine ⟨_, rfl, _, _, rfl, rfl, .inr ⟨by decide, by decide⟩, _, rfl, _, _, rfl, rfl, .inl ⟨by decide, by decide⟩, _, _, rfl, rfl, _, _, rfl, rfl, .inl ⟨_, rfl, _, _, rfl, rfl, (by show (0 : Int) < 2147483629; decide), ?_⟩⟩
          refine ⟨fun v H' => ∃ q : Int, v = .int q ∧ 0 ≤ q ∧ H' = H2, ?_, ?_⟩
          · refine ⟨_, rfl, _, _, rfl, rfl, _, rfl, ite2 (fun ht => iteT ⟨_, rfl, _, rfl, _, rfl, ?_, rfl⟩) (fun hf => ?_)⟩
            · split <;> omega
            · refine ⟨_, rfl, _, _, rfl, rfl, ⟨by decide, by decide, by decide⟩, _, _, rfl, rfl, _, rfl, ite2 (fun h => ?_) (fun h => ?_)⟩
              · refine ⟨_, rfl, _, rfl, _, rfl, ?_, rfl⟩
                split <;> omega
              · exact ⟨0, rfl, by decide, rfl⟩
          · rintro v H3 ⟨q, rfl, q0, rfl⟩
            refine ⟨(by show 2 ≤ sizeLine; decide), fun c hc => k c _ (ex.free hc) (Ext.new ex hc) ⟨_, _, upd_same, q0⟩⟩
end
end RG

set_option Elab.async false
set_option linter.all false
set_option maxRecDepth 100000
set_option maxHeartbeats 8000000
namespace RG
open PySem PySem.Spec PyProof.Rows L2
/-! ### the classes of an error -/
theorem KitRow.inv {K : PySem.W.Frag} {C : Addr} {t : Tst} {ts : List Tst} {bs : List Bool} (h : KitRow K C (t :: ts) bs) : ∃ b r, bs = b :: r ∧ PySem.W.kitOne K (.ref C) (t.v K) = some b ∧ KitRow K C ts r := by
  cases h with
  | cons k r => exact ⟨_, _, rfl, k, r⟩
theorem KitRow.nil_inv {K : PySem.W.Frag} {C : Addr} {bs : List Bool} (h : KitRow K C [] bs) : bs = [] := by
  cases h
  rfl
def sel (n : Nat) (lo : Int) (f : Nat → Bool) : List V := ((List.range n).filter f).map fun i => V.int (lo + (i : Nat))
theorem sel_succ {n : Nat} {lo : Int} {f : Nat → Bool} : sel (n + 1) lo f = if f n = true then sel n lo f ++ [V.int (lo + (n : Nat))] else sel n lo f := by
  unfold sel
  rw [List.range_succ, List.filter_append, List.map_append]
  by_cases h : f n = true
  · rw [if_pos h]
    simp [List.filter_cons, h]
  · rw [if_neg h]
    simp [List.filter_cons, h]
theorem sel_len (n : Nat) (lo : Int) (f : Nat → Bool) : (sel n lo f).length ≤ n := by
  unfold sel
  rw [List.length_map]
  have h := List.length_filter_le f (List.range n)
  rwa [List.length_range] at h
theorem atI_bl {fs : List Bool} {i : Nat} (h : i < fs.length) : atI (fs.map V.bl) (i : Int) = some (.bl (fs.getD i false)) := by
  refine atI_nat ?_
  rw [List.getElem?_map, List.getElem?_eq_getElem h, List.getD_eq_getElem?_getD, List.getElem?_eq_getElem h]
  rfl
def codes (fs : List Bool) : List V := sel 19 0 (fun i => (fs.take 19).getD i false) ++ sel 6 20 (fun i => (fs.drop 19).getD i false)
/-- an error of the class at C -/
def ErrAt (H : Hp) (a C : Addr) : Prop := ∃ d, H a = some (exo a C d) ∧ ∀ dx, d = some dx → ∃ fs, H dx = some (exd dx fs)
theorem ErrAt.ext {H H1 : Hp} {a C : Addr} (h : ErrAt H a C) (e : Ext H H1) : ErrAt H1 a C := by
  obtain ⟨d, h1, h2⟩ := h
  exact ⟨d, e _ _ h1, fun dx q => (h2 dx q).elim fun fs z => ⟨fs, e _ _ z⟩⟩
def spCls (K : PySem.W.Frag) : Sp := fun vs H Q _ => ∃ (a C : Addr) (bs : List Bool), vs = [.ref a] ∧ ErrAt H a C ∧ XCl K C ∧ KitRow K C tests bs ∧ ∀ p H', H p = none → Ext H H' → H' p = some (.lst (codes bs)) → Q (.ref p) H'
theorem isi_ok {K : PySem.W.Frag} {H : Hp} {a C : Addr} {c : V} {cv : Value} {b : Bool} {Q : VK} (e : ErrAt H a C) (x : XCl K C) (hc : ∀ u, RelV c u → u = cv) (k : PySem.W.kitOne K (.ref C) cv = some b) (q : Q (.bl b) H) : rXisi K [.ref a, c] H Q := by
  obtain ⟨d, h1, h2⟩ := e
  exact ⟨a, C, d, c, cv, b, rfl, h1, h2, x, hc, k, q⟩
theorem own_val {a : Addr} : ∀ u, RelV (.ref a) u → u = Value.ref a := fun _ h => h
theorem ty_val {n : String} : ∀ u, RelV (.ty n) u → u = Value.type n := fun _ h => h
section
variable {P : Program} {w : World} {K : PySem.W.Frag} {mg : Str → Option Value} {base : Heap}
theorem ok__law_classes (T : Tx K mg) : FnOk P w K mg base CX0 1 (He.ga K "_law_classes") (fdAt K (He.ga K "_law_classes")) ["_law_e"] (spCls K) := by
  refine T.d__law_classes.ok sc__law_classes (fun vs H Q E h => ?_) (fun cdv A outer s H vs Q E hr h => ?_)
  · obtain ⟨a, C, bs, rfl, _⟩ := h
    rfl
  · obtain ⟨a, C, bs, rfl, he, hx, hk, k⟩ := h
    unfold tests at hk
    obtain ⟨b0, bs0, rfl, k0, hk⟩ := hk.inv
    obtain ⟨b1, bs1, rfl, k1, hk⟩ := hk.inv
    obtain ⟨b2, bs2, rfl, k2, hk⟩ := hk.inv
    obtain ⟨b3, bs3, rfl, k3, hk⟩ := hk.inv
    obtain ⟨b4, bs4, rfl, k4, hk⟩ := hk.inv
    obtain ⟨b5, bs5, rfl, k5, hk⟩ := hk.inv
    obtain ⟨b6, bs6, rfl, k6, hk⟩ := hk.inv
    obtain ⟨b7, bs7, rfl, k7, hk⟩ := hk.inv
    obtain ⟨b8, bs8, rfl, k8, hk⟩ := hk.inv
    obtain ⟨b9, bs9, rfl, k9, hk⟩ := hk.inv
    obtain ⟨b10, bs10, rfl, k10, hk⟩ := hk.inv
    obtain ⟨b11, bs11, rfl, k11, hk⟩ := hk.inv
    obtain ⟨b12, bs12, rfl, k12, hk⟩ := hk.inv
    obtain ⟨b13, bs13, rfl, k13, hk⟩ := hk.inv
    obtain ⟨b14, bs14, rfl, k14, hk⟩ := hk.inv
    obtain ⟨b15, bs15, rfl, k15, hk⟩ := hk.inv
    obtain ⟨b16, bs16, rfl, k16, hk⟩ := hk.inv
    obtain ⟨b17, bs17, rfl, k17, hk⟩ := hk.inv
    obtain ⟨b18, bs18, rfl, k18, hk⟩ := hk.inv
    obtain ⟨b19, bs19, rfl, k19, hk⟩ := hk.inv
    obtain ⟨b20, bs20, rfl, k20, hk⟩ := hk.inv
    obtain ⟨b21, bs21, rfl, k21, hk⟩ := hk.inv
    obtain ⟨b22, bs22, rfl, k22, hk⟩ := hk.inv
    obtain ⟨b23, bs23, rfl, k23, hk⟩ := hk.inv
    obtain ⟨b24, bs24, rfl, k24, hk⟩ := hk.inv
    obtain rfl := hk.nil_inv
    refine ⟨_, PSs.nox (pss_cons (ps_set (i := 1) sc__law_classes.nd rfl (Or.inr rfl) (pe_lst (pa_cons (pe_callB (r := rXisi K) call_xisi (by rfl) T.n_isinstance (by decide +kernel) (pa_cons (pv 0) (pa_cons (pe_glob (v := V.ref (He.ga K "NotAPattern")) rfl T.g_NotAPattern rfl) pa_nil))) (pa_cons (pe_callB (r := rXisi K) call_xisi (by rfl) T.n_isinstance (by decide +kernel) (pa_cons (pv 0) (pa_cons (pe_glob (v := V.ref (He.ga K "NotARun")) rfl T.g_NotARun rfl) pa_nil))) pa_nil)))) (pss_cons (ps_set (i := 1) sc__law_classes.nd rfl (Or.inr rfl) (pe_op op_cat (pv 1) (pe_lst (pa_cons (pe_callB (r := rXisi K) call_xisi (by rfl) T.n_isinstance (by decide +kernel) (pa_cons (pv 0) (pa_cons (pe_glob (v := V.ref (He.ga K "InvalidResistance")) rfl T.g_InvalidResistance rfl) pa_nil))) (pa_cons (pe_callB (r := rXisi K) call_xisi (by rfl) T.n_isinstance (by decide +kernel) (pa_cons (pv 0) (pa_cons (pe_glob (v := V.ref (He.ga K "InvalidCount")) rfl T.g_InvalidCount rfl) pa_nil))) pa_nil))))) (pss_cons (ps_set (i := 1) sc__law_classes.nd rfl (Or.inr rfl) (pe_op op_cat (pv 1) (pe_lst (pa_cons (pe_callB (r := rXisi K) call_xisi (by rfl) T.n_isinstance (by decide +kernel) (pa_cons (pv 0) (pa_cons (pe_glob (v := V.ref (He.ga K "InvalidNumber")) rfl T.g_InvalidNumber rfl) pa_nil))) (pa_cons (pe_callB (r := rXisi K) call_xisi (by rfl) T.n_isinstance (by decide +kernel) (pa_cons (pv 0) (pa_cons (pe_glob (v := V.ref (He.ga K "InvalidText")) rfl T.g_InvalidText rfl) pa_nil))) (pa_cons (pe_callB (r := rXisi K) call_xisi (by rfl) T.n_isinstance (by decide +kernel) (pa_cons (pv 0) (pa_cons (pe_glob (v := V.ref (He.ga K "InvalidName")) rfl T.g_InvalidName rfl) pa_nil))) pa_nil)))))) (pss_cons (ps_set (i := 1) sc__law_classes.nd rfl (Or.inr rfl) (pe_op op_cat (pv 1) (pe_lst (pa_cons (pe_callB (r := rXisi K) call_xisi (by rfl) T.n_isinstance (by decide +kernel) (pa_cons (pv 0) (pa_cons (pe_glob (v := V.ref (He.ga K "InvalidClaim")) rfl T.g_InvalidClaim rfl) pa_nil))) (pa_cons (pe_callB (r := rXisi K) call_xisi (by rfl) T.n_isinstance (by decide +kernel) (pa_cons (pv 0) (pa_cons (pe_glob (v := V.ref (He.ga K "InvalidIndex")) rfl T.g_InvalidIndex rfl) pa_nil))) pa_nil))))) (pss_cons (ps_set (i := 1) sc__law_classes.nd rfl (Or.inr rfl) (pe_op op_cat (pv 1) (pe_lst (pa_cons (pe_callB (r := rXisi K) call_xisi (by rfl) T.n_isinstance (by decide +kernel) (pa_cons (pv 0) (pa_cons (pe_glob (v := V.ref (He.ga K "InvalidPieces")) rfl T.g_InvalidPieces rfl) pa_nil))) (pa_cons (pe_callB (r := rXisi K) call_xisi (by rfl) T.n_isinstance (by decide +kernel) (pa_cons (pv 0) (pa_cons (pe_glob (v := V.ref (He.ga K "InvalidKinds")) rfl T.g_InvalidKinds rfl) pa_nil))) (pa_cons (pe_callB (r := rXisi K) call_xisi (by rfl) T.n_isinstance (by decide +kernel) (pa_cons (pv 0) (pa_cons (pe_glob (v := V.ref (He.ga K "InvalidStretches")) rfl T.g_InvalidStretches rfl) pa_nil))) pa_nil)))))) (pss_cons (ps_set (i := 1) sc__law_classes.nd rfl (Or.inr rfl) (pe_op op_cat (pv 1) (pe_lst (pa_cons (pe_callB (r := rXisi K) call_xisi (by rfl) T.n_isinstance (by decide +kernel) (pa_cons (pv 0) (pa_cons (pe_glob (v := V.ref (He.ga K "InvalidDeeds")) rfl T.g_InvalidDeeds rfl) pa_nil))) (pa_cons (pe_callB (r := rXisi K) call_xisi (by rfl) T.n_isinstance (by decide +kernel) (pa_cons (pv 0) (pa_cons (pe_glob (v := V.ref (He.ga K "UnknownName")) rfl T.g_UnknownName rfl) pa_nil))) (pa_cons (pe_callB (r := rXisi K) call_xisi (by rfl) T.n_isinstance (by decide +kernel) (pa_cons (pv 0) (pa_cons (pe_glob (v := V.ref (He.ga K "InUse")) rfl T.g_InUse rfl) pa_nil))) pa_nil)))))) (pss_cons (ps_set (i := 1) sc__law_classes.nd rfl (Or.inr rfl) (pe_op op_cat (pv 1) (pe_lst (pa_cons (pe_callB (r := rXisi K) call_xisi (by rfl) T.n_isinstance (by decide +kernel) (pa_cons (pv 0) (pa_cons (pe_glob (v := V.ref (He.ga K "TooMany")) rfl T.g_TooMany rfl) pa_nil))) (pa_cons (pe_callB (r := rXisi K) call_xisi (by rfl) T.n_isinstance (by decide +kernel) (pa_cons (pv 0) (pa_cons (pe_glob (v := V.ref (He.ga K "Broken")) rfl T.g_Broken rfl) pa_nil))) pa_nil))))) (pss_cons (ps_set (i := 1) sc__law_classes.nd rfl (Or.inr rfl) (pe_op op_cat (pv 1) (pe_lst (pa_cons (pe_callB (r := rXisi K) call_xisi (by rfl) T.n_isinstance (by decide +kernel) (pa_cons (pv 0) (pa_cons (pe_glob (v := V.ref (He.ga K "NoLimit")) rfl T.g_NoLimit rfl) pa_nil))) (pa_cons (pe_callB (r := rXisi K) call_xisi (by rfl) T.n_isinstance (by decide +kernel) (pa_cons (pv 0) (pa_cons (pe_glob (v := V.ref (He.ga K "NothingToUndo")) rfl T.g_NothingToUndo rfl) pa_nil))) pa_nil))))) (pss_cons (ps_set (i := 2) sc__law_classes.nd rfl (Or.inr rfl) (pe_lst (pa_cons (pe_callB (r := rXisi K) call_xisi (by rfl) T.n_isinstance (by decide +kernel) (pa_cons (pv 0) (pa_cons (pe_glob (v := V.ref (He.ga K "WrongValue")) rfl T.g_WrongValue rfl) pa_nil))) (pa_cons (pe_callB (r := rXisi K) call_xisi (by rfl) T.n_isinstance (by decide +kernel) (pa_cons (pv 0) (pa_cons (pe_glob (v := V.ref (He.ga K "WrongName")) rfl T.g_WrongName rfl) pa_nil))) (pa_cons (pe_callB (r := rXisi K) call_xisi (by rfl) T.n_isinstance (by decide +kernel) (pa_cons (pv 0) (pa_cons (pe_glob (v := V.ref (He.ga K "NoAnswer")) rfl T.g_NoAnswer rfl) pa_nil))) pa_nil))))) (pss_cons (ps_set (i := 2) sc__law_classes.nd rfl (Or.inr rfl) (pe_op op_cat (pv 2) (pe_lst (pa_cons (pe_callB (r := rXisi K) call_xisi (by rfl) T.n_isinstance (by decide +kernel) (pa_cons (pv 0) (pa_cons (pe_bltn (v := .ty "ValueError") rfl T.n_ValueError (by decide +kernel) rfl) pa_nil))) (pa_cons (pe_callB (r := rXisi K) call_xisi (by rfl) T.n_isinstance (by decide +kernel) (pa_cons (pv 0) (pa_cons (pe_bltn (v := .ty "LookupError") rfl T.n_LookupError (by decide +kernel) rfl) pa_nil))) (pa_cons (pe_callB (r := rXisi K) call_xisi (by rfl) T.n_isinstance (by decide +kernel) (pa_cons (pv 0) (pa_cons (pe_bltn (v := .ty "ArithmeticError") rfl T.n_ArithmeticError (by decide +kernel) rfl) pa_nil))) pa_nil)))))) (pss_one (ps_ret (pe_op op_cat (pe_lc (own := [("_law_at", 3)]) (g := gName 3) rfl sc__law_classes.nd (pi_range1 rfl T.n_range (pa_cons pe_int pa_nil)) (blkOk_by (own := [("_law_at", 3)]) (N := ["_law_e", "_law_found", "_law_above", "_law_at"]) (sc := defScope s__law_classes) (by decide +kernel)) (fun _ _ _ _ _ => (pg_name (i := 3) sc__law_classes.nd rfl (Or.inl rfl))) (fun _ _ _ _ _ => pts_one (pt_val (pe_ix (r := rIxL K) ix_list (pv 1) (pv 3) (fun _ _ => rfl)))) (fun _ _ _ _ _ => (pv 3))) (pe_lc (own := [("_law_at", 3)]) (g := gName 3) rfl sc__law_classes.nd (pi_range1 rfl T.n_range (pa_cons pe_int pa_nil)) (blkOk_by (own := [("_law_at", 3)]) (N := ["_law_e", "_law_found", "_law_above", "_law_at"]) (sc := defScope s__law_classes) (by decide +kernel)) (fun _ _ _ _ _ => (pg_name (i := 3) sc__law_classes.nd rfl (Or.inl rfl))) (fun _ _ _ _ _ => pts_one (pt_val (pe_ix (r := rIxL K) ix_list (pv 2) (pv 3) (fun _ _ => rfl)))) (fun _ _ _ _ _ => (pe_op op_add pe_int (pv 3))))))))))))))))), ?_⟩
    obtain ⟨d, he1, he2⟩ := he
    refine ⟨_, rfl, a, C, d, _, _, _, rfl, he1, he2, hx, own_val, k0, _, rfl, a, C, d, _, _, _, rfl, he1, he2, hx, own_val, k1, (by show 2 ≤ sizeLine; decide), fun p0 n0 => ?_⟩
    have x0 := Ext.new (o := .lst [V.bl b0, V.bl b1]) (Ext.refl H) n0
    have q0 : (upd H p0 (.lst [V.bl b0, V.bl b1])) p0 = some (.lst [V.bl b0, V.bl b1]) := upd_same
    generalize upd H p0 (.lst [V.bl b0, V.bl b1]) = H0 at x0 q0 ⊢
    refine ⟨_, rfl, _, rfl, a, C, d, _, _, _, rfl, (x0 _ _ he1), (fun dx q => (he2 dx q).elim fun fs z => ⟨fs, x0 _ _ z⟩), hx, own_val, k2, _, rfl, a, C, d, _, _, _, rfl, (x0 _ _ he1), (fun dx q => (he2 dx q).elim fun fs z => ⟨fs, x0 _ _ z⟩), hx, own_val, k3, (by show 2 ≤ sizeLine; decide), fun l1 m1 => ⟨p0, l1, _, _, rfl, rfl, Ext.new (Ext.refl _) m1 _ _ q0, upd_same, (by show 2 + 2 ≤ sizeLine; decide), fun p1 n1 => ?_⟩⟩
    have x1 := Ext.new (o := .lst [V.bl b0, V.bl b1, V.bl b2, V.bl b3]) (Ext.new (o := .lst [V.bl b2, V.bl b3]) x0 m1) n1
    have q1 : (upd (upd H0 l1 (.lst [V.bl b2, V.bl b3])) p1 (.lst [V.bl b0, V.bl b1, V.bl b2, V.bl b3])) p1 = some (.lst [V.bl b0, V.bl b1, V.bl b2, V.bl b3]) := upd_same
    have e1 : (upd (upd H0 l1 (.lst [V.bl b2, V.bl b3])) p1 (.lst ([V.bl b0, V.bl b1] ++ [V.bl b2, V.bl b3]))) = upd (upd H0 l1 (.lst [V.bl b2, V.bl b3])) p1 (.lst [V.bl b0, V.bl b1, V.bl b2, V.bl b3]) := rfl
    rw [e1]
    generalize upd (upd H0 l1 (.lst [V.bl b2, V.bl b3])) p1 (.lst [V.bl b0, V.bl b1, V.bl b2, V.bl b3]) = H1 at x1 q1 ⊢
    refine ⟨_, rfl, _, rfl, a, C, d, _, _, _, rfl, (x1 _ _ he1), (fun dx q => (he2 dx q).elim fun fs z => ⟨fs, x1 _ _ z⟩), hx, own_val, k4, _, rfl, a, C, d, _, _, _, rfl, (x1 _ _ he1), (fun dx q => (he2 dx q).elim fun fs z => ⟨fs, x1 _ _ z⟩), hx, own_val, k5, _, rfl, a, C, d, _, _, _, rfl, (x1 _ _ he1), (fun dx q => (he2 dx q).elim fun fs z => ⟨fs, x1 _ _ z⟩), hx, own_val, k6, (by show 3 ≤ sizeLine; decide), fun l2 m2 => ⟨p1, l2, _, _, rfl, rfl, Ext.new (Ext.refl _) m2 _ _ q1, upd_same, (by show 4 + 3 ≤ sizeLine; decide), fun p2 n2 => ?_⟩⟩
    have x2 := Ext.new (o := .lst [V.bl b0, V.bl b1, V.bl b2, V.bl b3, V.bl b4, V.bl b5, V.bl b6]) (Ext.new (o := .lst [V.bl b4, V.bl b5, V.bl b6]) x1 m2) n2
    have q2 : (upd (upd H1 l2 (.lst [V.bl b4, V.bl b5, V.bl b6])) p2 (.lst [V.bl b0, V.bl b1, V.bl b2, V.bl b3, V.bl b4, V.bl b5, V.bl b6])) p2 = some (.lst [V.bl b0, V.bl b1, V.bl b2, V.bl b3, V.bl b4, V.bl b5, V.bl b6]) := upd_same
    have e2 : (upd (upd H1 l2 (.lst [V.bl b4, V.bl b5, V.bl b6])) p2 (.lst ([V.bl b0, V.bl b1, V.bl b2, V.bl b3] ++ [V.bl b4, V.bl b5, V.bl b6]))) = upd (upd H1 l2 (.lst [V.bl b4, V.bl b5, V.bl b6])) p2 (.lst [V.bl b0, V.bl b1, V.bl b2, V.bl b3, V.bl b4, V.bl b5, V.bl b6]) := rfl
    rw [e2]
    generalize upd (upd H1 l2 (.lst [V.bl b4, V.bl b5, V.bl b6])) p2 (.lst [V.bl b0, V.bl b1, V.bl b2, V.bl b3, V.bl b4, V.bl b5, V.bl b6]) = H2 at x2 q2 ⊢
    refine ⟨_, rfl, _, rfl, a, C, d, _, _, _, rfl, (x2 _ _ he1), (fun dx q => (he2 dx q).elim fun fs z => ⟨fs, x2 _ _ z⟩), hx, own_val, k7, _, rfl, a, C, d, _, _, _, rfl, (x2 _ _ he1), (fun dx q => (he2 dx q).elim fun fs z => ⟨fs, x2 _ _ z⟩), hx, own_val, k8, (by show 2 ≤ sizeLine; decide), fun l3 m3 => ⟨p2, l3, _, _, rfl, rfl, Ext.new (Ext.refl _) m3 _ _ q2, upd_same, (by show 7 + 2 ≤ sizeLine; decide), fun p3 n3 => ?_⟩⟩
    have x3 := Ext.new (o := .lst [V.bl b0, V.bl b1, V.bl b2, V.bl b3, V.bl b4, V.bl b5, V.bl b6, V.bl b7, V.bl b8]) (Ext.new (o := .lst [V.bl b7, V.bl b8]) x2 m3) n3
    have q3 : (upd (upd H2 l3 (.lst [V.bl b7, V.bl b8])) p3 (.lst [V.bl b0, V.bl b1, V.bl b2, V.bl b3, V.bl b4, V.bl b5, V.bl b6, V.bl b7, V.bl b8])) p3 = some (.lst [V.bl b0, V.bl b1, V.bl b2, V.bl b3, V.bl b4, V.bl b5, V.bl b6, V.bl b7, V.bl b8]) := upd_same
    have e3 : (upd (upd H2 l3 (.lst [V.bl b7, V.bl b8])) p3 (.lst ([V.bl b0, V.bl b1, V.bl b2, V.bl b3, V.bl b4, V.bl b5, V.bl b6] ++ [V.bl b7, V.bl b8]))) = upd (upd H2 l3 (.lst [V.bl b7, V.bl b8])) p3 (.lst [V.bl b0, V.bl b1, V.bl b2, V.bl b3, V.bl b4, V.bl b5, V.bl b6, V.bl b7, V.bl b8]) := rfl
    rw [e3]
    generalize upd (upd H2 l3 (.lst [V.bl b7, V.bl b8])) p3 (.lst [V.bl b0, V.bl b1, V.bl b2, V.bl b3, V.bl b4, V.bl b5, V.bl b6, V.bl b7, V.bl b8]) = H3 at x3 q3 ⊢
    refine ⟨_, rfl, _, rfl, a, C, d, _, _, _, rfl, (x3 _ _ he1), (fun dx q => (he2 dx q).elim fun fs z => ⟨fs, x3 _ _ z⟩), hx, own_val, k9, _, rfl, a, C, d, _, _, _, rfl, (x3 _ _ he1), (fun dx q => (he2 dx q).elim fun fs z => ⟨fs, x3 _ _ z⟩), hx, own_val, k10, _, rfl, a, C, d, _, _, _, rfl, (x3 _ _ he1), (fun dx q => (he2 dx q).elim fun fs z => ⟨fs, x3 _ _ z⟩), hx, own_val, k11, (by show 3 ≤ sizeLine; decide), fun l4 m4 => ⟨p3, l4, _, _, rfl, rfl, Ext.new (Ext.refl _) m4 _ _ q3, upd_same, (by show 9 + 3 ≤ sizeLine; decide), fun p4 n4 => ?_⟩⟩
    have x4 := Ext.new (o := .lst [V.bl b0, V.bl b1, V.bl b2, V.bl b3, V.bl b4, V.bl b5, V.bl b6, V.bl b7, V.bl b8, V.bl b9, V.bl b10, V.bl b11]) (Ext.new (o := .lst [V.bl b9, V.bl b10, V.bl b11]) x3 m4) n4
    have q4 : (upd (upd H3 l4 (.lst [V.bl b9, V.bl b10, V.bl b11])) p4 (.lst [V.bl b0, V.bl b1, V.bl b2, V.bl b3, V.bl b4, V.bl b5, V.bl b6, V.bl b7, V.bl b8, V.bl b9, V.bl b10, V.bl b11])) p4 = some (.lst [V.bl b0, V.bl b1, V.bl b2, V.bl b3, V.bl b4, V.bl b5, V.bl b6, V.bl b7, V.bl b8, V.bl b9, V.bl b10, V.bl b11]) := upd_same
    have e4 : (upd (upd H3 l4 (.lst [V.bl b9, V.bl b10, V.bl b11])) p4 (.lst ([V.bl b0, V.bl b1, V.bl b2, V.bl b3, V.bl b4, V.bl b5, V.bl b6, V.bl b7, V.bl b8] ++ [V.bl b9, V.bl b10, V.bl b11]))) = upd (upd H3 l4 (.lst [V.bl b9, V.bl b10, V.bl b11])) p4 (.lst [V.bl b0, V.bl b1, V.bl b2, V.bl b3, V.bl b4, V.bl b5, V.bl b6, V.bl b7, V.bl b8, V.bl b9, V.bl b10, V.bl b11]) := rfl
    rw [e4]
    generalize upd (upd H3 l4 (.lst [V.bl b9, V.bl b10, V.bl b11])) p4 (.lst [V.bl b0, V.bl b1, V.bl b2, V.bl b3, V.bl b4, V.bl b5, V.bl b6, V.bl b7, V.bl b8, V.bl b9, V.bl b10, V.bl b11]) = H4 at x4 q4 ⊢
    refine ⟨_, rfl, _, rfl, a, C, d, _, _, _, rfl, (x4 _ _ he1), (fun dx q => (he2 dx q).elim fun fs z => ⟨fs, x4 _ _ z⟩), hx, own_val, k12, _, rfl, a, C, d, _, _, _, rfl, (x4 _ _ he1), (fun dx q => (he2 dx q).elim fun fs z => ⟨fs, x4 _ _ z⟩), hx, own_val, k13, _, rfl, a, C, d, _, _, _, rfl, (x4 _ _ he1), (fun dx q => (he2 dx q).elim fun fs z => ⟨fs, x4 _ _ z⟩), hx, own_val, k14, (by show 3 ≤ sizeLine; decide), fun l5 m5 => ⟨p4, l5, _, _, rfl, rfl, Ext.new (Ext.refl _) m5 _ _ q4, upd_same, (by show 12 + 3 ≤ sizeLine; decide), fun p5 n5 => ?_⟩⟩
    have x5 := Ext.new (o := .lst [V.bl b0, V.bl b1, V.bl b2, V.bl b3, V.bl b4, V.bl b5, V.bl b6, V.bl b7, V.bl b8, V.bl b9, V.bl b10, V.bl b11, V.bl b12, V.bl b13, V.bl b14]) (Ext.new (o := .lst [V.bl b12, V.bl b13, V.bl b14]) x4 m5) n5
    have q5 : (upd (upd H4 l5 (.lst [V.bl b12, V.bl b13, V.bl b14])) p5 (.lst [V.bl b0, V.bl b1, V.bl b2, V.bl b3, V.bl b4, V.bl b5, V.bl b6, V.bl b7, V.bl b8, V.bl b9, V.bl b10, V.bl b11, V.bl b12, V.bl b13, V.bl b14])) p5 = some (.lst [V.bl b0, V.bl b1, V.bl b2, V.bl b3, V.bl b4, V.bl b5, V.bl b6, V.bl b7, V.bl b8, V.bl b9, V.bl b10, V.bl b11, V.bl b12, V.bl b13, V.bl b14]) := upd_same
    have e5 : (upd (upd H4 l5 (.lst [V.bl b12, V.bl b13, V.bl b14])) p5 (.lst ([V.bl b0, V.bl b1, V.bl b2, V.bl b3, V.bl b4, V.bl b5, V.bl b6, V.bl b7, V.bl b8, V.bl b9, V.bl b10, V.bl b11] ++ [V.bl b12, V.bl b13, V.bl b14]))) = upd (upd H4 l5 (.lst [V.bl b12, V.bl b13, V.bl b14])) p5 (.lst [V.bl b0, V.bl b1, V.bl b2, V.bl b3, V.bl b4, V.bl b5, V.bl b6, V.bl b7, V.bl b8, V.bl b9, V.bl b10, V.bl b11, V.bl b12, V.bl b13, V.bl b14]) := rfl
    rw [e5]
    generalize upd (upd H4 l5 (.lst [V.bl b12, V.bl b13, V.bl b14])) p5 (.lst [V.bl b0, V.bl b1, V.bl b2, V.bl b3, V.bl b4, V.bl b5, V.bl b6, V.bl b7, V.bl b8, V.bl b9, V.bl b10, V.bl b11, V.bl b12, V.bl b13, V.bl b14]) = H5 at x5 q5 ⊢
    refine ⟨_, rfl, _, rfl, a, C, d, _, _, _, rfl, (x5 _ _ he1), (fun dx q => (he2 dx q).elim fun fs z => ⟨fs, x5 _ _ z⟩), hx, own_val, k15, _, rfl, a, C, d, _, _, _, rfl, (x5 _ _ he1), (fun dx q => (he2 dx q).elim fun fs z => ⟨fs, x5 _ _ z⟩), hx, own_val, k16, (by show 2 ≤ sizeLine; decide), fun l6 m6 => ⟨p5, l6, _, _, rfl, rfl, Ext.new (Ext.refl _) m6 _ _ q5, upd_same, (by show 15 + 2 ≤ sizeLine; decide), fun p6 n6 => ?_⟩⟩
    have x6 := Ext.new (o := .lst [V.bl b0, V.bl b1, V.bl b2, V.bl b3, V.bl b4, V.bl b5, V.bl b6, V.bl b7, V.bl b8, V.bl b9, V.bl b10, V.bl b11, V.bl b12, V.bl b13, V.bl b14, V.bl b15, V.bl b16]) (Ext.new (o := .lst [V.bl b15, V.bl b16]) x5 m6) n6
    have q6 : (upd (upd H5 l6 (.lst [V.bl b15, V.bl b16])) p6 (.lst [V.bl b0, V.bl b1, V.bl b2, V.bl b3, V.bl b4, V.bl b5, V.bl b6, V.bl b7, V.bl b8, V.bl b9, V.bl b10, V.bl b11, V.bl b12, V.bl b13, V.bl b14, V.bl b15, V.bl b16])) p6 = some (.lst [V.bl b0, V.bl b1, V.bl b2, V.bl b3, V.bl b4, V.bl b5, V.bl b6, V.bl b7, V.bl b8, V.bl b9, V.bl b10, V.bl b11, V.bl b12, V.bl b13, V.bl b14, V.bl b15, V.bl b16]) := upd_same
    have e6 : (upd (upd H5 l6 (.lst [V.bl b15, V.bl b16])) p6 (.lst ([V.bl b0, V.bl b1, V.bl b2, V.bl b3, V.bl b4, V.bl b5, V.bl b6, V.bl b7, V.bl b8, V.bl b9, V.bl b10, V.bl b11, V.bl b12, V.bl b13, V.bl b14] ++ [V.bl b15, V.bl b16]))) = upd (upd H5 l6 (.lst [V.bl b15, V.bl b16])) p6 (.lst [V.bl b0, V.bl b1, V.bl b2, V.bl b3, V.bl b4, V.bl b5, V.bl b6, V.bl b7, V.bl b8, V.bl b9, V.bl b10, V.bl b11, V.bl b12, V.bl b13, V.bl b14, V.bl b15, V.bl b16]) := rfl
    rw [e6]
    generalize upd (upd H5 l6 (.lst [V.bl b15, V.bl b16])) p6 (.lst [V.bl b0, V.bl b1, V.bl b2, V.bl b3, V.bl b4, V.bl b5, V.bl b6, V.bl b7, V.bl b8, V.bl b9, V.bl b10, V.bl b11, V.bl b12, V.bl b13, V.bl b14, V.bl b15, V.bl b16]) = H6 at x6 q6 ⊢
    refine ⟨_, rfl, _, rfl, a, C, d, _, _, _, rfl, (x6 _ _ he1), (fun dx q => (he2 dx q).elim fun fs z => ⟨fs, x6 _ _ z⟩), hx, own_val, k17, _, rfl, a, C, d, _, _, _, rfl, (x6 _ _ he1), (fun dx q => (he2 dx q).elim fun fs z => ⟨fs, x6 _ _ z⟩), hx, own_val, k18, (by show 2 ≤ sizeLine; decide), fun l7 m7 => ⟨p6, l7, _, _, rfl, rfl, Ext.new (Ext.refl _) m7 _ _ q6, upd_same, (by show 17 + 2 ≤ sizeLine; decide), fun p7 n7 => ?_⟩⟩
    have x7 := Ext.new (o := .lst [V.bl b0, V.bl b1, V.bl b2, V.bl b3, V.bl b4, V.bl b5, V.bl b6, V.bl b7, V.bl b8, V.bl b9, V.bl b10, V.bl b11, V.bl b12, V.bl b13, V.bl b14, V.bl b15, V.bl b16, V.bl b17, V.bl b18]) (Ext.new (o := .lst [V.bl b17, V.bl b18]) x6 m7) n7
    have q7 : (upd (upd H6 l7 (.lst [V.bl b17, V.bl b18])) p7 (.lst [V.bl b0, V.bl b1, V.bl b2, V.bl b3, V.bl b4, V.bl b5, V.bl b6, V.bl b7, V.bl b8, V.bl b9, V.bl b10, V.bl b11, V.bl b12, V.bl b13, V.bl b14, V.bl b15, V.bl b16, V.bl b17, V.bl b18])) p7 = some (.lst [V.bl b0, V.bl b1, V.bl b2, V.bl b3, V.bl b4, V.bl b5, V.bl b6, V.bl b7, V.bl b8, V.bl b9, V.bl b10, V.bl b11, V.bl b12, V.bl b13, V.bl b14, V.bl b15, V.bl b16, V.bl b17, V.bl b18]) := upd_same
    have e7 : (upd (upd H6 l7 (.lst [V.bl b17, V.bl b18])) p7 (.lst ([V.bl b0, V.bl b1, V.bl b2, V.bl b3, V.bl b4, V.bl b5, V.bl b6, V.bl b7, V.bl b8, V.bl b9, V.bl b10, V.bl b11, V.bl b12, V.bl b13, V.bl b14, V.bl b15, V.bl b16] ++ [V.bl b17, V.bl b18]))) = upd (upd H6 l7 (.lst [V.bl b17, V.bl b18])) p7 (.lst [V.bl b0, V.bl b1, V.bl b2, V.bl b3, V.bl b4, V.bl b5, V.bl b6, V.bl b7, V.bl b8, V.bl b9, V.bl b10, V.bl b11, V.bl b12, V.bl b13, V.bl b14, V.bl b15, V.bl b16, V.bl b17, V.bl b18]) := rfl
    rw [e7]
    generalize upd (upd H6 l7 (.lst [V.bl b17, V.bl b18])) p7 (.lst [V.bl b0, V.bl b1, V.bl b2, V.bl b3, V.bl b4, V.bl b5, V.bl b6, V.bl b7, V.bl b8, V.bl b9, V.bl b10, V.bl b11, V.bl b12, V.bl b13, V.bl b14, V.bl b15, V.bl b16, V.bl b17, V.bl b18]) = H7 at x7 q7 ⊢
    refine ⟨_, rfl, a, C, d, _, _, _, rfl, (x7 _ _ he1), (fun dx q => (he2 dx q).elim fun fs z => ⟨fs, x7 _ _ z⟩), hx, own_val, k19, _, rfl, a, C, d, _, _, _, rfl, (x7 _ _ he1), (fun dx q => (he2 dx q).elim fun fs z => ⟨fs, x7 _ _ z⟩), hx, own_val, k20, _, rfl, a, C, d, _, _, _, rfl, (x7 _ _ he1), (fun dx q => (he2 dx q).elim fun fs z => ⟨fs, x7 _ _ z⟩), hx, own_val, k21, (by show 3 ≤ sizeLine; decide), fun p8 n8 => ?_⟩
    have x8 := Ext.new (o := .lst [V.bl b19, V.bl b20, V.bl b21]) x7 n8
    have q8 : (upd H7 p8 (.lst [V.bl b19, V.bl b20, V.bl b21])) p8 = some (.lst [V.bl b19, V.bl b20, V.bl b21]) := upd_same
    have q7' := Ext.new (o := .lst [V.bl b19, V.bl b20, V.bl b21]) (Ext.refl _) n8 _ _ q7
    generalize upd H7 p8 (.lst [V.bl b19, V.bl b20, V.bl b21]) = H8 at x8 q8 q7' ⊢
    refine ⟨_, rfl, _, rfl, a, C, d, _, _, _, rfl, (x8 _ _ he1), (fun dx q => (he2 dx q).elim fun fs z => ⟨fs, x8 _ _ z⟩), hx, ty_val, k22, _, rfl, a, C, d, _, _, _, rfl, (x8 _ _ he1), (fun dx q => (he2 dx q).elim fun fs z => ⟨fs, x8 _ _ z⟩), hx, ty_val, k23, _, rfl, a, C, d, _, _, _, rfl, (x8 _ _ he1), (fun dx q => (he2 dx q).elim fun fs z => ⟨fs, x8 _ _ z⟩), hx, ty_val, k24, (by show 3 ≤ sizeLine; decide), fun l9 m9 => ⟨p8, l9, _, _, rfl, rfl, Ext.new (Ext.refl _) m9 _ _ q8, upd_same, (by show 3 + 3 ≤ sizeLine; decide), fun p9 n9 => ?_⟩⟩
    have x9 := Ext.new (o := .lst [V.bl b19, V.bl b20, V.bl b21, V.bl b22, V.bl b23, V.bl b24]) (Ext.new (o := .lst [V.bl b22, V.bl b23, V.bl b24]) x8 m9) n9
    have q9 : (upd (upd H8 l9 (.lst [V.bl b22, V.bl b23, V.bl b24])) p9 (.lst [V.bl b19, V.bl b20, V.bl b21, V.bl b22, V.bl b23, V.bl b24])) p9 = some (.lst [V.bl b19, V.bl b20, V.bl b21, V.bl b22, V.bl b23, V.bl b24]) := upd_same
    have e9 : (upd (upd H8 l9 (.lst [V.bl b22, V.bl b23, V.bl b24])) p9 (.lst ([V.bl b19, V.bl b20, V.bl b21] ++ [V.bl b22, V.bl b23, V.bl b24]))) = upd (upd H8 l9 (.lst [V.bl b22, V.bl b23, V.bl b24])) p9 (.lst [V.bl b19, V.bl b20, V.bl b21, V.bl b22, V.bl b23, V.bl b24]) := rfl
    rw [e9]
    have y9 := Ext.new (o := .lst [V.bl b19, V.bl b20, V.bl b21, V.bl b22, V.bl b23, V.bl b24]) (Ext.new (o := .lst [V.bl b22, V.bl b23, V.bl b24]) (Ext.refl H8) m9) n9 _ _ q7'
    generalize upd (upd H8 l9 (.lst [V.bl b22, V.bl b23, V.bl b24])) p9 (.lst [V.bl b19, V.bl b20, V.bl b21, V.bl b22, V.bl b23, V.bl b24]) = H9 at x9 q9 y9 ⊢
    generalize hf1 : ([b0, b1, b2, b3, b4, b5, b6, b7, b8, b9, b10, b11, b12, b13, b14, b15, b16, b17, b18] : List Bool) = f1
    have z1 : H9 p7 = some (.lst (f1.map V.bl)) := by rw [← hf1]; exact y9
    have z2 : H9 p9 = some (.lst (([b19, b20, b21, b22, b23, b24] : List Bool).map V.bl)) := q9
    generalize hf2 : ([b19, b20, b21, b22, b23, b24] : List Bool) = f2 at z2
    have l1 : f1.length = 19 := by rw [← hf1]; rfl
    have l2 : f2.length = 6 := by rw [← hf2]; rfl
    have hc : codes (b0 :: b1 :: b2 :: b3 :: b4 :: b5 :: b6 :: b7 :: b8 :: b9 :: b10 :: b11 :: b12 :: b13 :: b14 :: b15 :: b16 :: b17 :: b18 :: b19 :: b20 :: b21 :: b22 :: b23 :: [b24]) = sel 19 0 (fun i => f1.getD i false) ++ sel 6 20 (fun i => f2.getD i false) := by
      rw [← hf1, ← hf2]
      rfl
    rw [hc] at k
    refine ⟨19, rfl, by decide, by decide, fun D1 nD1 => lc_range (lo := 0) (n := 19) (fun i H' => Ext H9 H' ∧ H' D1 = some (.lst (sel i 0 fun i => f1.getD i false))) ⟨Ext.new (Ext.refl _) nD1, upd_same⟩ ?_ ?_⟩
    · rintro i H' hi ⟨ex, hd⟩
      refine ⟨rfl, _, rfl, _, rfl, p7, _, _, .bl (f1.getD i false), rfl, rfl, lstL (ex _ _ z1), (by rw [Int.zero_add]; exact atI_bl (by omega)), _, rfl, ?_⟩
      rw [sel_succ]
      cases hb : f1.getD i false with
      | true => exact ⟨_, rfl, _, hd, Nat.lt_of_le_of_lt (sel_len ..) (Nat.lt_of_lt_of_le hi (by decide)), Ext.mut ex nD1, upd_same⟩
      | false => exact ⟨ex, hd⟩
    · rintro H' ⟨ex, hd⟩
      refine ⟨6, rfl, by decide, by decide, fun D2 nD2 => lc_range (lo := 0) (n := 6) (fun i H2 => Ext H' H2 ∧ H2 D2 = some (.lst (sel i 20 fun i => f2.getD i false))) ⟨Ext.new (Ext.refl _) nD2, upd_same⟩ ?_ ?_⟩
      · rintro i H2 hi ⟨ex2, hd2⟩
        refine ⟨rfl, _, rfl, _, rfl, p9, _, _, .bl (f2.getD i false), rfl, rfl, lstL (ex2 _ _ (ex _ _ z2)), (by rw [Int.zero_add]; exact atI_bl (by omega)), _, rfl, ?_⟩
        rw [sel_succ]
        cases hb : f2.getD i false with
        | true =>
          refine ⟨_, rfl, _, _, rfl, rfl, _, hd2, Nat.lt_of_le_of_lt (sel_len ..) (Nat.lt_of_lt_of_le hi (by decide)), Ext.mut ex2 nD2, ?_⟩
          rw [Int.zero_add]
          exact upd_same
        | false => exact ⟨ex2, hd2⟩
      · rintro H2 ⟨ex2, hd2⟩
        refine ⟨D1, D2, _, _, rfl, rfl, ex2 _ _ hd, hd2, ?_, fun p np => ?_⟩
        · have a1 := sel_len 19 0 fun i => f1.getD i false
          have a2 := sel_len 6 20 fun i => f2.getD i false
          exact Nat.le_trans (Nat.add_le_add a1 a2) (by decide)
        · have e3 : Ext H H2 := (x9.trans ex).trans ex2
          exact k p _ (e3.free np) (Ext.new e3 np) upd_same
end
end RG

set_option Elab.async false
set_option linter.all false
set_option maxRecDepth 100000
set_option maxHeartbeats 8000000
namespace RG
open PySem PySem.Spec PyProof.Rows L2
/-! ### errors of all classes, two of each -/
/-- at l: two errors of the class at C that keep v in the field f; nothing of it stood in H0 -/
structure Both (H0 H : Hp) (f : Str) (v : V) (C l : Addr) : Prop where
  ex : ∃ e1 d1 e2 d2, H l = some (.lst [.ref e1, .ref e2]) ∧ XV H e1 C d1 [(f, v)] ∧ XV H e2 C d2 [(f, v)] ∧ H0 l = none ∧ H0 e1 = none ∧ H0 d1 = none ∧ H0 e2 = none ∧ H0 d2 = none
theorem Both.ext {H0 H H1 : Hp} {f : Str} {v : V} {C l : Addr} (b : Both H0 H f v C l) (e : Ext H H1) : Both H0 H1 f v C l := by
  obtain ⟨e1, d1, e2, d2, h1, h2, h3, h4⟩ := b.ex
  exact ⟨e1, d1, e2, d2, e _ _ h1, ⟨e _ _ h2.1, e _ _ h2.2⟩, ⟨e _ _ h3.1, e _ _ h3.2⟩, h4⟩
theorem Both.base {H0 H1 H : Hp} {f : Str} {v : V} {C l : Addr} (b : Both H1 H f v C l) (e : Ext H0 H1) : Both H0 H f v C l := by
  obtain ⟨e1, d1, e2, d2, h1, h2, h3, h4, h5, h6, h7, h8⟩ := b.ex
  exact ⟨e1, d1, e2, d2, h1, h2, h3, e.free h4, e.free h5, e.free h6, e.free h7, e.free h8⟩
/-- a thing that H0 had is changed -/
theorem Both.mut {H0 H : Hp} {f : Str} {v : V} {C l p : Addr} {o u : HO} (b : Both H0 H f v C l) (hp : H0 p = some u) : Both H0 (upd H p o) f v C l := by
  obtain ⟨e1, d1, e2, d2, h1, h2, h3, h4, h5, h6, h7, h8⟩ := b.ex
  have n : ∀ {x : Addr}, H0 x = none → x ≠ p := fun hx z => by rw [z, hp] at hx; cases hx
  exact ⟨e1, d1, e2, d2, (upd_ne (n h4)).trans h1, ⟨(upd_ne (n h5)).trans h2.1, (upd_ne (n h6)).trans h2.2⟩, ⟨(upd_ne (n h7)).trans h3.1, (upd_ne (n h8)).trans h3.2⟩, h4, h5, h6, h7, h8⟩
abbrev tBoth (C : Addr) (f : Str) (j : Nat) : TE := tLst (tCons (tXmake C f (tVar j)) (tCons (tXmake C f (tVar j)) tNil))
def tBothM (C : Addr) (f : Str) (j : Nat) : TE := fun σ H Q => ∃ v, σ[j]? = some (some v) ∧ ∀ l H', H l = none → Ext H H' → Both H H' f v C l → Q (.ref l) H'
theorem both_imp {C : Addr} {f : Str} {j : Nat} (σ : L2.St) (H : Hp) (Q : VK) (h : tBothM C f j σ H Q) : tBoth C f j σ H Q := by
  obtain ⟨v, hv, k⟩ := h
  refine ⟨_, hv, fun e1 d1 n1 m1 q1 => ⟨_, hv, fun e2 d2 n2 m2 q2 => ⟨(by show 2 ≤ sizeLine; decide), fun l nl => ?_⟩⟩⟩
  have x1 : Ext H (upd (upd H d1 (exd d1 [(f, v)])) e1 (exo e1 C (some d1))) := Ext.new (Ext.new (Ext.refl H) m1) ((upd_ne q1.symm).trans n1)
  have y1 : XV (upd (upd H d1 (exd d1 [(f, v)])) e1 (exo e1 C (some d1))) e1 C d1 [(f, v)] := ⟨upd_same, (upd_ne q1).trans upd_same⟩
  generalize upd (upd H d1 (exd d1 [(f, v)])) e1 (exo e1 C (some d1)) = H1 at *
  have x2 : Ext H1 (upd (upd H1 d2 (exd d2 [(f, v)])) e2 (exo e2 C (some d2))) := Ext.new (Ext.new (Ext.refl H1) m2) ((upd_ne q2.symm).trans n2)
  have y2 : XV (upd (upd H1 d2 (exd d2 [(f, v)])) e2 (exo e2 C (some d2))) e2 C d2 [(f, v)] := ⟨upd_same, (upd_ne q2).trans upd_same⟩
  generalize upd (upd H1 d2 (exd d2 [(f, v)])) e2 (exo e2 C (some d2)) = H2 at *
  have x3 := Ext.new (o := .lst [.ref e1, .ref e2]) (Ext.refl H2) nl
  refine k l _ (x1.free (x2.free nl)) ((x1.trans x2).trans x3) ⟨e1, d1, e2, d2, upd_same, ⟨x3 _ _ (x2 _ _ y1.1), x3 _ _ (x2 _ _ y1.2)⟩, ⟨x3 _ _ y2.1, x3 _ _ y2.2⟩, x1.free (x2.free nl), n1, m1, x1.free n2, x1.free m2⟩
/-- a list of such -/
inductive Rows (K : PySem.W.Frag) (H0 H : Hp) (f : Str) (v : V) : List Str → List V → Prop where
  | nil : Rows K H0 H f v [] []
  | cons {x : Str} {l : Addr} {xs : List Str} {ls : List V} (h : Both H0 H f v (He.ga K x) l) (r : Rows K H0 H f v xs ls) : Rows K H0 H f v (x :: xs) (.ref l :: ls)
theorem Rows.ext {K : PySem.W.Frag} {H0 H H1 : Hp} {f : Str} {v : V} (e : Ext H H1) : ∀ {xs : List Str} {ls : List V}, Rows K H0 H f v xs ls → Rows K H0 H1 f v xs ls
  | _, _, .nil => .nil
  | _, _, .cons h r => .cons (h.ext e) (r.ext e)
def spRows (K : PySem.W.Frag) (f : Str) (xs : List Str) : Sp := fun vs H Q _ => ∃ v, vs = [v] ∧ ∀ p ls H', H p = none → Ext H H' → H' p = some (.lst ls) → Rows K H H' f v xs ls → Q (.ref p) H'
abbrev givens : List Str := ["NotAPattern", "NotARun", "InvalidResistance", "InvalidCount", "InvalidNumber", "InvalidText", "InvalidName", "InvalidClaim", "InvalidIndex"]
abbrev indexeds : List Str := ["InvalidPieces", "InvalidKinds", "InvalidStretches", "InvalidDeeds"]
section
variable {P : Program} {w : World} {K : PySem.W.Frag} {mg : Str → Option Value} {base : Heap}
theorem ok__law_given (T : Tx K mg) : FnOk P w K mg base CX0 3 (He.ga K "_law_given") (fdAt K (He.ga K "_law_given")) ["_law_thing"] (spRows K "given" givens) := by
  refine T.d__law_given.ok sc__law_given (fun vs H Q E h => ?_) (fun cdv A outer s H vs Q E hr h => ?_)
  · obtain ⟨v, rfl, _⟩ := h
    rfl
  · obtain ⟨v, rfl, k⟩ := h
    refine ⟨_, PSs.nox (pss_cons (ps_set (i := 1) sc__law_given.nd rfl (Or.inl rfl) (pe_lst (pa_cons (pe_imp (pe_lst (pa_cons (pe_xmake T.x_NotAPattern T.i_NotAPattern.ini T.i_NotAPattern.fn (ok_NotAPattern_init T) (hr.mono (by decide)) (bn_NotAPattern_init T) rfl T.g_NotAPattern (pv 0)) (pa_cons (pe_xmakeK T.x_NotAPattern T.i_NotAPattern.ini T.i_NotAPattern.fn (ok_NotAPattern_init T) (hr.mono (by decide)) (bk_NotAPattern T) rfl T.g_NotAPattern (pv 0)) pa_nil))) both_imp) (pa_cons (pe_imp (pe_lst (pa_cons (pe_xmake T.x_NotARun T.i_NotARun.ini T.i_NotARun.fn (ok_NotARun_init T) (hr.mono (by decide)) (bn_NotARun_init T) rfl T.g_NotARun (pv 0)) (pa_cons (pe_xmakeK T.x_NotARun T.i_NotARun.ini T.i_NotARun.fn (ok_NotARun_init T) (hr.mono (by decide)) (bk_NotARun T) rfl T.g_NotARun (pv 0)) pa_nil))) both_imp) pa_nil)))) (pss_cons (ps_expr (pe_bm PySem.F.plainAttrs_list PySem.F.slot_list_append PySem.F.type_list_append mt_append (pv 1) (pa_cons (pe_imp (pe_lst (pa_cons (pe_xmake T.x_InvalidResistance T.i_InvalidResistance.ini T.i_InvalidResistance.fn (ok_InvalidResistance_init T) (hr.mono (by decide)) (bn_InvalidResistance_init T) rfl T.g_InvalidResistance (pv 0)) (pa_cons (pe_xmakeK T.x_InvalidResistance T.i_InvalidResistance.ini T.i_InvalidResistance.fn (ok_InvalidResistance_init T) (hr.mono (by decide)) (bk_InvalidResistance T) rfl T.g_InvalidResistance (pv 0)) pa_nil))) both_imp) pa_nil))) (pss_cons (ps_expr (pe_bm PySem.F.plainAttrs_list PySem.F.slot_list_append PySem.F.type_list_append mt_append (pv 1) (pa_cons (pe_imp (pe_lst (pa_cons (pe_xmake T.x_InvalidCount T.i_InvalidCount.ini T.i_InvalidCount.fn (ok_InvalidCount_init T) (hr.mono (by decide)) (bn_InvalidCount_init T) rfl T.g_InvalidCount (pv 0)) (pa_cons (pe_xmakeK T.x_InvalidCount T.i_InvalidCount.ini T.i_InvalidCount.fn (ok_InvalidCount_init T) (hr.mono (by decide)) (bk_InvalidCount T) rfl T.g_InvalidCount (pv 0)) pa_nil))) both_imp) pa_nil))) (pss_cons (ps_expr (pe_bm PySem.F.plainAttrs_list PySem.F.slot_list_append PySem.F.type_list_append mt_append (pv 1) (pa_cons (pe_imp (pe_lst (pa_cons (pe_xmake T.x_InvalidNumber T.i_InvalidNumber.ini T.i_InvalidNumber.fn (ok_InvalidNumber_init T) (hr.mono (by decide)) (bn_InvalidNumber_init T) rfl T.g_InvalidNumber (pv 0)) (pa_cons (pe_xmakeK T.x_InvalidNumber T.i_InvalidNumber.ini T.i_InvalidNumber.fn (ok_InvalidNumber_init T) (hr.mono (by decide)) (bk_InvalidNumber T) rfl T.g_InvalidNumber (pv 0)) pa_nil))) both_imp) pa_nil))) (pss_cons (ps_set (i := 1) sc__law_given.nd rfl (Or.inl rfl) (pe_op op_cat (pv 1) (pe_lst (pa_cons (pe_imp (pe_lst (pa_cons (pe_xmake T.x_InvalidText T.i_InvalidText.ini T.i_InvalidText.fn (ok_InvalidText_init T) (hr.mono (by decide)) (bn_InvalidText_init T) rfl T.g_InvalidText (pv 0)) (pa_cons (pe_xmakeK T.x_InvalidText T.i_InvalidText.ini T.i_InvalidText.fn (ok_InvalidText_init T) (hr.mono (by decide)) (bk_InvalidText T) rfl T.g_InvalidText (pv 0)) pa_nil))) both_imp) (pa_cons (pe_imp (pe_lst (pa_cons (pe_xmake T.x_InvalidName T.i_InvalidName.ini T.i_InvalidName.fn (ok_InvalidName_init T) (hr.mono (by decide)) (bn_InvalidName_init T) rfl T.g_InvalidName (pv 0)) (pa_cons (pe_xmakeK T.x_InvalidName T.i_InvalidName.ini T.i_InvalidName.fn (ok_InvalidName_init T) (hr.mono (by decide)) (bk_InvalidName T) rfl T.g_InvalidName (pv 0)) pa_nil))) both_imp) pa_nil))))) (pss_one (ps_ret (pe_op op_cat (pv 1) (pe_lst (pa_cons (pe_imp (pe_lst (pa_cons (pe_xmake T.x_InvalidClaim T.i_InvalidClaim.ini T.i_InvalidClaim.fn (ok_InvalidClaim_init T) (hr.mono (by decide)) (bn_InvalidClaim_init T) rfl T.g_InvalidClaim (pv 0)) (pa_cons (pe_xmakeK T.x_InvalidClaim T.i_InvalidClaim.ini T.i_InvalidClaim.fn (ok_InvalidClaim_init T) (hr.mono (by decide)) (bk_InvalidClaim T) rfl T.g_InvalidClaim (pv 0)) pa_nil))) both_imp) (pa_cons (pe_imp (pe_lst (pa_cons (pe_xmake T.x_InvalidIndex T.i_InvalidIndex.ini T.i_InvalidIndex.fn (ok_InvalidIndex_init T) (hr.mono (by decide)) (bn_InvalidIndex_init T) rfl T.g_InvalidIndex (pv 0)) (pa_cons (pe_xmakeK T.x_InvalidIndex T.i_InvalidIndex.ini T.i_InvalidIndex.fn (ok_InvalidIndex_init T) (hr.mono (by decide)) (bk_InvalidIndex T) rfl T.g_InvalidIndex (pv 0)) pa_nil))) both_imp) pa_nil))))))))))), ?_⟩
    refine ⟨_, rfl, fun l0 H0 n0 x0 b0 => ⟨_, rfl, fun l1 H1 n1 x1 b1 => ⟨(by show 2 ≤ sizeLine; decide), fun p np => ?_⟩⟩⟩
    have fp : H p = none := x0.free (x1.free np)
    have hp1 : (upd H1 p (.lst [.ref l0, .ref l1])) p = some (.lst [.ref l0, .ref l1]) := upd_same
    have y1 : Ext H1 (upd H1 p (.lst [.ref l0, .ref l1])) := Ext.mut (Ext.refl H1) np
    generalize upd H1 p (.lst [.ref l0, .ref l1]) = G1 at hp1 y1 ⊢
    refine ⟨_, rfl, .inl ⟨rfl, _, lstL hp1⟩, _, rfl, fun l2 H2 n2 x2 b2 => ⟨p, _, _, rfl, rfl, x2 _ _ hp1, (by show 2 < sizeLine; decide), ?_⟩⟩
    have hp2 : (upd H2 p (.lst [.ref l0, .ref l1, .ref l2])) p = some (.lst [.ref l0, .ref l1, .ref l2]) := upd_same
    have y2 : Ext H1 (upd H2 p (.lst [.ref l0, .ref l1, .ref l2])) := Ext.mut (y1.trans x2) np
    have b2 := b2.mut (o := .lst [.ref l0, .ref l1, .ref l2]) hp1
    rw [show (upd H2 p (.lst ([.ref l0, .ref l1] ++ [.ref l2]))) = upd H2 p (.lst [.ref l0, .ref l1, .ref l2]) from rfl]
    generalize upd H2 p (.lst [.ref l0, .ref l1, .ref l2]) = G2 at hp2 y2 b2 ⊢
    refine ⟨_, rfl, .inl ⟨rfl, _, lstL hp2⟩, _, rfl, fun l3 H3 n3 x3 b3 => ⟨p, _, _, rfl, rfl, x3 _ _ hp2, (by show 3 < sizeLine; decide), ?_⟩⟩
    have hp3 : (upd H3 p (.lst [.ref l0, .ref l1, .ref l2, .ref l3])) p = some (.lst [.ref l0, .ref l1, .ref l2, .ref l3]) := upd_same
    have y3 : Ext H1 (upd H3 p (.lst [.ref l0, .ref l1, .ref l2, .ref l3])) := Ext.mut (y2.trans x3) np
    have b2 := (b2.ext x3).mut (o := .lst [.ref l0, .ref l1, .ref l2, .ref l3]) hp1
    have b3 := b3.mut (o := .lst [.ref l0, .ref l1, .ref l2, .ref l3]) hp2
    rw [show (upd H3 p (.lst ([.ref l0, .ref l1, .ref l2] ++ [.ref l3]))) = upd H3 p (.lst [.ref l0, .ref l1, .ref l2, .ref l3]) from rfl]
    generalize upd H3 p (.lst [.ref l0, .ref l1, .ref l2, .ref l3]) = G3 at hp3 y3 b2 b3 ⊢
    refine ⟨_, rfl, .inl ⟨rfl, _, lstL hp3⟩, _, rfl, fun l4 H4 n4 x4 b4 => ⟨p, _, _, rfl, rfl, x4 _ _ hp3, (by show 4 < sizeLine; decide), ?_⟩⟩
    have hp4 : (upd H4 p (.lst [.ref l0, .ref l1, .ref l2, .ref l3, .ref l4])) p = some (.lst [.ref l0, .ref l1, .ref l2, .ref l3, .ref l4]) := upd_same
    have y4 : Ext H1 (upd H4 p (.lst [.ref l0, .ref l1, .ref l2, .ref l3, .ref l4])) := Ext.mut (y3.trans x4) np
    have b2 := (b2.ext x4).mut (o := .lst [.ref l0, .ref l1, .ref l2, .ref l3, .ref l4]) hp1
    have b3 := (b3.ext x4).mut (o := .lst [.ref l0, .ref l1, .ref l2, .ref l3, .ref l4]) hp2
    have b4 := b4.mut (o := .lst [.ref l0, .ref l1, .ref l2, .ref l3, .ref l4]) hp3
    rw [show (upd H4 p (.lst ([.ref l0, .ref l1, .ref l2, .ref l3] ++ [.ref l4]))) = upd H4 p (.lst [.ref l0, .ref l1, .ref l2, .ref l3, .ref l4]) from rfl]
    generalize upd H4 p (.lst [.ref l0, .ref l1, .ref l2, .ref l3, .ref l4]) = G4 at hp4 y4 b2 b3 b4 ⊢
    refine ⟨_, rfl, _, rfl, fun l5 H5 n5 x5 b5 => ⟨_, rfl, fun l6 H6 n6 x6 b6 => ⟨(by show 2 ≤ sizeLine; decide), fun q5 m5 => ?_⟩⟩⟩
    have z5 := Ext.new (o := .lst [.ref l5, .ref l6]) (Ext.refl H6) m5
    refine ⟨p, q5, _, _, rfl, rfl, z5 _ _ (x6 _ _ (x5 _ _ hp4)), upd_same, (by show 5 + 2 ≤ sizeLine; decide), fun r5 m6 => ?_⟩
    have w5 := Ext.new (o := .lst [.ref l0, .ref l1, .ref l2, .ref l3, .ref l4, .ref l5, .ref l6]) z5 m6
    rw [show (upd (upd H6 q5 (.lst [.ref l5, .ref l6])) r5 (.lst ([.ref l0, .ref l1, .ref l2, .ref l3, .ref l4] ++ [.ref l5, .ref l6]))) = upd (upd H6 q5 (.lst [.ref l5, .ref l6])) r5 (.lst [.ref l0, .ref l1, .ref l2, .ref l3, .ref l4, .ref l5, .ref l6]) from rfl]
    have hp6 : (upd (upd H6 q5 (.lst [.ref l5, .ref l6])) r5 (.lst [.ref l0, .ref l1, .ref l2, .ref l3, .ref l4, .ref l5, .ref l6])) r5 = some (.lst [.ref l0, .ref l1, .ref l2, .ref l3, .ref l4, .ref l5, .ref l6]) := upd_same
    have g5 := z5.free m6
    generalize upd (upd H6 q5 (.lst [.ref l5, .ref l6])) r5 (.lst [.ref l0, .ref l1, .ref l2, .ref l3, .ref l4, .ref l5, .ref l6]) = G6 at hp6 w5 ⊢
    have y6 : Ext H1 G6 := ((y4.trans x5).trans x6).trans w5
    have b2 := ((b2.ext x5).ext x6).ext w5
    have b3 := ((b3.ext x5).ext x6).ext w5
    have b4 := ((b4.ext x5).ext x6).ext w5
    have b6 := (b6.base x5).ext w5
    have b5 := (b5.ext x6).ext w5
    refine ⟨_, rfl, _, rfl, fun l7 H7 n7 x7 b7 => ⟨_, rfl, fun l8 H8 n8 x8 b8 => ⟨(by show 2 ≤ sizeLine; decide), fun q7 m7 => ?_⟩⟩⟩
    have z7 := Ext.new (o := .lst [.ref l7, .ref l8]) (Ext.refl H8) m7
    refine ⟨r5, q7, _, _, rfl, rfl, z7 _ _ (x8 _ _ (x7 _ _ hp6)), upd_same, (by show 7 + 2 ≤ sizeLine; decide), fun r7 m8 => ?_⟩
    have w7 := Ext.new (o := .lst [.ref l0, .ref l1, .ref l2, .ref l3, .ref l4, .ref l5, .ref l6, .ref l7, .ref l8]) z7 m8
    rw [show (upd (upd H8 q7 (.lst [.ref l7, .ref l8])) r7 (.lst ([.ref l0, .ref l1, .ref l2, .ref l3, .ref l4, .ref l5, .ref l6] ++ [.ref l7, .ref l8]))) = upd (upd H8 q7 (.lst [.ref l7, .ref l8])) r7 (.lst [.ref l0, .ref l1, .ref l2, .ref l3, .ref l4, .ref l5, .ref l6, .ref l7, .ref l8]) from rfl]
    have hp8 : (upd (upd H8 q7 (.lst [.ref l7, .ref l8])) r7 (.lst [.ref l0, .ref l1, .ref l2, .ref l3, .ref l4, .ref l5, .ref l6, .ref l7, .ref l8])) r7 = some (.lst [.ref l0, .ref l1, .ref l2, .ref l3, .ref l4, .ref l5, .ref l6, .ref l7, .ref l8]) := upd_same
    have g7 := z7.free m8
    generalize upd (upd H8 q7 (.lst [.ref l7, .ref l8])) r7 (.lst [.ref l0, .ref l1, .ref l2, .ref l3, .ref l4, .ref l5, .ref l6, .ref l7, .ref l8]) = G8 at hp8 w7 ⊢
    have y8 : Ext H1 G8 := ((y6.trans x7).trans x8).trans w7
    have b2 := ((b2.ext x7).ext x8).ext w7
    have b3 := ((b3.ext x7).ext x8).ext w7
    have b4 := ((b4.ext x7).ext x8).ext w7
    have b5 := ((b5.ext x7).ext x8).ext w7
    have b6 := ((b6.ext x7).ext x8).ext w7
    have b8 := (b8.base x7).ext w7
    have b7 := (b7.ext x8).ext w7
    have xx : Ext H H1 := x0.trans x1
    have xf : Ext H G8 := xx.trans y8
    refine k r7 _ _ (xx.free (y6.free (x7.free (x8.free (g7))))) xf hp8 (.cons ((b0.ext x1).ext y8) (.cons ((b1.base x0).ext y8) (.cons (b2.base (xx.trans y1)) (.cons (b3.base (xx.trans y2)) (.cons (b4.base (xx.trans y3)) (.cons (b5.base (xx.trans y4)) (.cons (b6.base (xx.trans y4)) (.cons (b7.base (xx.trans y6)) (.cons (b8.base (xx.trans y6)) .nil)))))))))
theorem ok__law_indexed (T : Tx K mg) : FnOk P w K mg base CX0 3 (He.ga K "_law_indexed") (fdAt K (He.ga K "_law_indexed")) ["_law_thing"] (spRows K "index" indexeds) := by
  refine T.d__law_indexed.ok sc__law_indexed (fun vs H Q E h => ?_) (fun cdv A outer s H vs Q E hr h => ?_)
  · obtain ⟨v, rfl, _⟩ := h
    rfl
  · obtain ⟨v, rfl, k⟩ := h
    refine ⟨_, PSs.nox (pss_cons (ps_set (i := 1) sc__law_indexed.nd rfl (Or.inl rfl) (pe_lst (pa_cons (pe_imp (pe_lst (pa_cons (pe_xmake T.x_InvalidPieces T.i_InvalidPieces.ini T.i_InvalidPieces.fn (ok_InvalidPieces_init T) (hr.mono (by decide)) (bn_InvalidPieces_init T) rfl T.g_InvalidPieces (pv 0)) (pa_cons (pe_xmakeK T.x_InvalidPieces T.i_InvalidPieces.ini T.i_InvalidPieces.fn (ok_InvalidPieces_init T) (hr.mono (by decide)) (bk_InvalidPieces T) rfl T.g_InvalidPieces (pv 0)) pa_nil))) both_imp) (pa_cons (pe_imp (pe_lst (pa_cons (pe_xmake T.x_InvalidKinds T.i_InvalidKinds.ini T.i_InvalidKinds.fn (ok_InvalidKinds_init T) (hr.mono (by decide)) (bn_InvalidKinds_init T) rfl T.g_InvalidKinds (pv 0)) (pa_cons (pe_xmakeK T.x_InvalidKinds T.i_InvalidKinds.ini T.i_InvalidKinds.fn (ok_InvalidKinds_init T) (hr.mono (by decide)) (bk_InvalidKinds T) rfl T.g_InvalidKinds (pv 0)) pa_nil))) both_imp) pa_nil)))) (pss_cons (ps_expr (pe_bm PySem.F.plainAttrs_list PySem.F.slot_list_append PySem.F.type_list_append mt_append (pv 1) (pa_cons (pe_imp (pe_lst (pa_cons (pe_xmake T.x_InvalidStretches T.i_InvalidStretches.ini T.i_InvalidStretches.fn (ok_InvalidStretches_init T) (hr.mono (by decide)) (bn_InvalidStretches_init T) rfl T.g_InvalidStretches (pv 0)) (pa_cons (pe_xmakeK T.x_InvalidStretches T.i_InvalidStretches.ini T.i_InvalidStretches.fn (ok_InvalidStretches_init T) (hr.mono (by decide)) (bk_InvalidStretches T) rfl T.g_InvalidStretches (pv 0)) pa_nil))) both_imp) pa_nil))) (pss_one (ps_ret (pe_op op_cat (pv 1) (pe_lst (pa_cons (pe_imp (pe_lst (pa_cons (pe_xmake T.x_InvalidDeeds T.i_InvalidDeeds.ini T.i_InvalidDeeds.fn (ok_InvalidDeeds_init T) (hr.mono (by decide)) (bn_InvalidDeeds_init T) rfl T.g_InvalidDeeds (pv 0)) (pa_cons (pe_xmakeK T.x_InvalidDeeds T.i_InvalidDeeds.ini T.i_InvalidDeeds.fn (ok_InvalidDeeds_init T) (hr.mono (by decide)) (bk_InvalidDeeds T) rfl T.g_InvalidDeeds (pv 0)) pa_nil))) both_imp) pa_nil))))))), ?_⟩
    refine ⟨_, rfl, fun l0 H0 n0 x0 b0 => ⟨_, rfl, fun l1 H1 n1 x1 b1 => ⟨(by show 2 ≤ sizeLine; decide), fun p np => ?_⟩⟩⟩
    have hp1 : (upd H1 p (.lst [.ref l0, .ref l1])) p = some (.lst [.ref l0, .ref l1]) := upd_same
    have y1 : Ext H1 (upd H1 p (.lst [.ref l0, .ref l1])) := Ext.mut (Ext.refl H1) np
    generalize upd H1 p (.lst [.ref l0, .ref l1]) = G1 at hp1 y1 ⊢
    refine ⟨_, rfl, .inl ⟨rfl, _, lstL hp1⟩, _, rfl, fun l2 H2 n2 x2 b2 => ⟨p, _, _, rfl, rfl, x2 _ _ hp1, (by show 2 < sizeLine; decide), ?_⟩⟩
    have hp2 : (upd H2 p (.lst [.ref l0, .ref l1, .ref l2])) p = some (.lst [.ref l0, .ref l1, .ref l2]) := upd_same
    have y2 : Ext H1 (upd H2 p (.lst [.ref l0, .ref l1, .ref l2])) := Ext.mut (y1.trans x2) np
    have b2 := b2.mut (o := .lst [.ref l0, .ref l1, .ref l2]) hp1
    rw [show (upd H2 p (.lst ([.ref l0, .ref l1] ++ [.ref l2]))) = upd H2 p (.lst [.ref l0, .ref l1, .ref l2]) from rfl]
    generalize upd H2 p (.lst [.ref l0, .ref l1, .ref l2]) = G2 at hp2 y2 b2 ⊢
    refine ⟨_, rfl, _, rfl, fun l3 H3 n3 x3 b3 => ⟨(by show 1 ≤ sizeLine; decide), fun q m => ?_⟩⟩
    have z := Ext.new (o := .lst [.ref l3]) (Ext.refl H3) m
    refine ⟨p, q, _, _, rfl, rfl, z _ _ (x3 _ _ hp2), upd_same, (by show 3 + 1 ≤ sizeLine; decide), fun r m2 => ?_⟩
    have w := Ext.new (o := .lst [.ref l0, .ref l1, .ref l2, .ref l3]) z m2
    have xx : Ext H H1 := x0.trans x1
    have yf := (y2.trans x3).trans w
    exact k r _ _ (xx.free (y2.free (x3.free (z.free m2)))) (xx.trans yf) upd_same (.cons ((b0.ext x1).ext yf) (.cons ((b1.base x0).ext yf) (.cons ((b2.base (xx.trans y1)).ext (x3.trans w)) (.cons ((b3.base (xx.trans y2)).ext w) .nil))))
end
end RG

set_option Elab.async false
set_option linter.all false
set_option maxRecDepth 100000
set_option maxHeartbeats 8000000
namespace RG
open PySem PySem.Spec PyProof.Rows L2
/-! ### data stays -/
mutual
theorem dp_ext {K : PySem.W.Frag} {H H1 : Hp} (e : Ext H H1) : ∀ {v : V} {d : PyData}, Dp K H v d → Dp K H1 v d
  | _, _, .non => .non
  | _, _, .bl b => .bl b
  | _, _, .int i => .int i
  | _, _, .str x => .str x
  | _, _, .lst h r => .lst (e.l h) (dpAll_ext e r)
  | _, _, .tup h r => .tup (e.t h) (dpAll_ext e r)
theorem dpAll_ext {K : PySem.W.Frag} {H H1 : Hp} (e : Ext H H1) : ∀ {vs : List V} {ds : List PyData}, DpAll K H vs ds → DpAll K H1 vs ds
  | _, _, .nil => .nil
  | _, _, .cons h r => .cons (dp_ext e h) (dpAll_ext e r)
end
theorem dt_ext {K : PySem.W.Frag} {H H1 : Hp} (e : Ext H H1) {v : V} {d : PyData} (h : Dt K H v d) : Dt K H1 v d := by
  cases h with
  | of h n => exact .of (dp_ext e h) n
  | dic h q => exact .dic (e _ _ h) q
theorem dpAll_app {K : PySem.W.Frag} {H : Hp} : ∀ {vs us : List V} {ds es : List PyData}, DpAll K H vs ds → DpAll K H us es → DpAll K H (vs ++ us) (ds ++ es)
  | _, _, _, _, .nil, r => r
  | _, _, _, _, .cons h t, r => .cons h (dpAll_app t r)
/-- a thing whose repr is known -/
structure Good (K : PySem.W.Frag) (H : Hp) (v : V) (d : PyData) : Prop where
  dt : Dt K H v d
  sh : d.showable = true
  dep : d.depth ≤ 50
  len : d.shown.length ≤ sizeLine
  lay : PyData.canLay0 (.str d.shown) = true
theorem Good.ext {K : PySem.W.Frag} {H H1 : Hp} {v : V} {d : PyData} (g : Good K H v d) (e : Ext H H1) : Good K H1 v d := ⟨dt_ext e g.dt, g.sh, g.dep, g.len, g.lay⟩
/-- the part of H' that is not at D -/
theorem del_ext {H H1 : Hp} {D : Addr} (e : Ext H H1) (hD : H D = none) : Ext H (delH H1 D) := fun x o h => by
  rw [delH_ne (ne_of_none h hD)]
  exact e x o h
theorem ext_del {H : Hp} {D : Addr} : Ext (delH H D) H := fun x o h => by
  by_cases n : x = D
  · rw [n, delH_same] at h
    cases h
  · rwa [delH_ne n] at h
/-- what one row of the comparison holds -/
def rowD (n b c : Int) (t : Str) : PyData := .list [.int n, .int b, .int c, .str t]
abbrev tRow (K : PySem.W.Frag) (f : Str) : TE := tOp rCat (tCall (spCls K) [] E0 (tCons (tVar 5) tNil)) (tLst (tCons (tCB (rRepr K) (tCons (tXfld K (tVar 5) f) tNil)) tNil))
abbrev tLeft (K : PySem.W.Frag) (f : Str) : TE := tLc (iList K (tVar 4)) (gName 5) tYes (tRow K f) [5]
abbrev tRight (K : PySem.W.Frag) (ta tb tc : TE) : TE := tOp rRep (tLst (tCons (tLst (tCons ta (tCons tb (tCons tc (tCons (tCB (rRepr K) (tCons (tVar 2) tNil)) tNil))))) tNil)) (tC (.int 2))
/-- an expression that is an int at once -/
def Now (t : TE) (σ : L2.St) (n : Int) : Prop := ∀ H (Q : VK), Q (.int n) H → t σ H Q
/-- what the comparison leans on -/
def Fits (K : PySem.W.Frag) (f : Str) (ta tb tc : TE) (σ : L2.St) (H : Hp) : Prop := ∃ s0 s1 v s3 l s5 H0 C d n b c bs, σ = [s0, s1, some v, s3, some (.ref l), s5] ∧ Both H0 H f v C l ∧ XCl K C ∧ KitRow K C tests bs ∧ PySem.W.findIn K (.ref C) f = some none ∧
  Good K H v d ∧ Now ta σ n ∧ Now tb σ b ∧ Now tc σ c ∧ codes bs = [.int n, .int b, .int c]
theorem row_shaped {n b c : Int} {t : Str} (h : PyData.canLay0 (.str t) = true) : SeqAt.shaped (.list [rowD n b c t, rowD n b c t]) = true := by
  unfold SeqAt.shaped rowD
  simp only [PyData.canLay0, PyData.canLayAll0] at h ⊢
  rw [h]
  rfl
theorem same_left {K : PySem.W.Frag} {f : Str} {v : V} {C l : Addr} {d : PyData} {n b c : Int} {bs : List Bool} {s0 s1 s3 s5 : Option V} {H0 H : Hp} {Q : VK} (hb : Both H0 H f v C l) (hx : XCl K C) (hk : KitRow K C tests bs) (hno : PySem.W.findIn K (.ref C) f = some none)
    (g : Good K H v d) (hc : codes bs = [.int n, .int b, .int c]) (k : ∀ D H', H D = none → Ext H H' → Dp K H' (.ref D) (.list [rowD n b c d.shown, rowD n b c d.shown]) → Q (.ref D) H') : tLeft K f [s0, s1, some v, s3, some (.ref l), s5] H Q := by
  obtain ⟨e1, d1, e2, d2, hl, x1, x2, _⟩ := hb.ex
  refine ⟨_, rfl, l, rfl, ⟨_, lstL hl⟩, fun D nD => lc_list (K := K) (a := l) (xs := [.ref e1, .ref e2]) (fun i H' => Ext H H' ∧ ∃ acc G, H' D = some (.lst acc) ∧ G D = none ∧ Ext H G ∧ Ext G H' ∧ acc.length = i ∧ DpAll K G acc (List.replicate i (rowD n b c d.shown)))
    ⟨Ext.new (Ext.refl H) nD, [], H, upd_same, nD, Ext.refl H, Ext.new (Ext.refl H) nD, rfl, .nil⟩ (fun i H' _ ⟨ex, _⟩ => ex.l (lstL hl)) ?_ ?_⟩
  · rintro i x H' hi ⟨ex, acc, G, hD, gD, hG, gx, ha, hdp⟩
    have hi2 : i < 2 := by
      have q := (List.getElem?_eq_some_iff.mp hi).1
      exact q
    obtain ⟨e, dx, rfl, xv⟩ : ∃ e dx, x = V.ref e ∧ XV H e C dx [(f, v)] := by
      match i, hi with
      | 0, hi =>
        cases hi
        exact ⟨e1, d1, rfl, x1⟩
      | 1, hi =>
        cases hi
        exact ⟨e2, d2, rfl, x2⟩
    have look : List.lookup f [(f, v)] = some v := by simp [List.lookup]
    refine ⟨rfl, ?_⟩
    show tRow K f [s0, s1, some v, s3, some (.ref l), some (.ref e)] H' _
    refine ⟨_, rfl, e, C, bs, rfl, ⟨some dx, ex _ _ xv.1, fun dy q => ⟨_, ex _ _ (Option.some.inj q ▸ xv.2)⟩⟩, hx, hk, fun p H2 np x2 hp => ?_⟩
    refine ⟨_, rfl, e, C, dx, _, v, rfl, ⟨x2 _ _ (ex _ _ xv.1), x2 _ _ (ex _ _ xv.2)⟩, hx, hno, look, ?_⟩
    have g2 := g.ext (ex.trans x2)
    refine ⟨v, d, rfl, g2.dt, g2.sh, g2.dep, g2.len, (by show 1 ≤ sizeLine; decide), fun q nq => ?_⟩
    have xq := Ext.new (o := .lst [.str d.shown]) (Ext.refl H2) nq
    rw [hc] at hp
    refine ⟨p, q, _, _, rfl, rfl, xq _ _ hp, upd_same, (by show 3 + 1 ≤ sizeLine; decide), fun r nr => ?_⟩
    have xr := Ext.new (o := .lst ([.int n, .int b, .int c] ++ [.str d.shown])) xq nr
    have hr : (upd (upd H2 q (.lst [.str d.shown])) r (.lst ([.int n, .int b, .int c] ++ [.str d.shown]))) r = some (.lst [.int n, .int b, .int c, .str d.shown]) := upd_same
    generalize upd (upd H2 q (.lst [.str d.shown])) r (.lst ([.int n, .int b, .int c] ++ [.str d.shown])) = H3 at xr hr ⊢
    have x3 : Ext H' H3 := x2.trans xr
    have hD3 := x3 _ _ hD
    have rD : r ≠ D := fun z => by
      have q : H2 D = none := (z ▸ xq.free nr)
      rw [x2 _ _ hD] at q
      cases q
    refine ⟨acc, hD3, by rw [ha]; exact Nat.lt_trans hi2 (by decide), Ext.mut (ex.trans x3) nD, acc ++ [.ref r], delH H3 D, upd_same, delH_same, del_ext (ex.trans x3) nD, ?_, by rw [List.length_append, ha]; rfl, ?_⟩
    · exact Ext.mut ext_del delH_same
    · rw [List.replicate_succ']
      refine dpAll_app (dpAll_ext (del_ext (gx.trans x3) gD) hdp) (.cons ?_ .nil)
      refine .lst (lstL ((delH_ne rD).trans hr)) (.cons (.int n) (.cons (.int b) (.cons (.int c) (.cons (.str _) .nil))))
  · rintro H' ⟨ex, acc, G, hD, gD, hG, gx, ha, hdp⟩
    exact k D H' nD ex (.lst (lstL hD) (dpAll_ext gx hdp))
theorem same_right {K : PySem.W.Frag} {v : V} {d : PyData} {n b c : Int} {σ : L2.St} {ta tb tc : TE} {H : Hp} {Q : VK} (hv : σ[2]? = some (some v)) (g : Good K H v d) (na : Now ta σ n) (nb : Now tb σ b) (nc : Now tc σ c)
    (k : ∀ q H', H q = none → Ext H H' → Dp K H' (.ref q) (.list [rowD n b c d.shown, rowD n b c d.shown]) → Q (.ref q) H') : tRight K ta tb tc σ H Q := by
  refine na H _ (nb H _ (nc H _ ⟨_, hv, v, d, rfl, g.dt, g.sh, g.dep, g.len, (by show 4 ≤ sizeLine; decide), fun q nq => ⟨(by show 1 ≤ sizeLine; decide), fun q2 nq2 => ⟨q2, 2, _, rfl, rfl, upd_same, by decide, by decide, (by show 1 * 2 ≤ sizeLine; decide), fun q3 nq3 => ?_⟩⟩⟩))
  have x1 := Ext.new (o := .lst [.int n, .int b, .int c, .str d.shown]) (Ext.refl H) nq
  have h1 : (upd H q (.lst [.int n, .int b, .int c, .str d.shown])) q = some (.lst [.int n, .int b, .int c, .str d.shown]) := upd_same
  have x2 := Ext.new (o := .lst [.ref q]) (Ext.refl _) nq2
  have x3 := Ext.new (o := .lst (List.replicate (2 : Int).toNat [V.ref q]).flatten) (Ext.refl _) nq3
  have dq : ∀ H', Ext (upd H q (.lst [.int n, .int b, .int c, .str d.shown])) H' → Dp K H' (.ref q) (rowD n b c d.shown) := fun H' e => .lst (lstL (e _ _ h1)) (.cons (.int n) (.cons (.int b) (.cons (.int c) (.cons (.str _) .nil))))
  exact k q3 _ (x1.free (x2.free nq3)) ((x1.trans x2).trans x3) (.lst (lstL upd_same) (.cons (dq _ (x2.trans x3)) (.cons (dq _ (x2.trans x3)) .nil)))
def tSameN (K : PySem.W.Frag) (f : Str) (ta tb tc : TE) : TT := fun σ H Q => Fits K f ta tb tc σ H ∧ ∀ H', Ext H H' → Q false H'
theorem sameN_imp {K : PySem.W.Frag} {f : Str} {ta tb tc : TE} (σ : L2.St) (H : Hp) (Q : Bool → Hp → Prop) (h : tSameN K f ta tb tc σ H Q) : tTest (tOp (rNeD K) (tLeft K f) (tRight K ta tb tc)) σ H Q := by
  obtain ⟨⟨s0, s1, v, s3, l, s5, H0, C, d, n, b, c, bs, rfl, hb, hx, hk, hno, g, na, nb, nc, hc⟩, k⟩ := h
  show tLeft K f [s0, s1, some v, s3, some (.ref l), s5] H fun x H1 => tRight K ta tb tc [s0, s1, some v, s3, some (.ref l), s5] H1 fun y H2 => rNeD K x y H2 fun z H3 => ∃ k, z = .bl k ∧ Q k H3
  refine same_left hb hx hk hno g hc fun D H1 nD x1 hD => same_right rfl (g.ext x1) na nb nc fun q H2 nq x2 hq => ?_
  refine ⟨_, _, dp_ext x2 hD, hq, row_shaped g.lay, row_shaped g.lay, _, rfl, ?_⟩
  rw [PySem.SeqAt.eqv_refl _ (SeqAt.canLay_of_shaped (row_shaped g.lay))]
  exact k H2 (x1.trans x2)
def tSameE (K : PySem.W.Frag) (f : Str) (ta tb tc : TE) : TE := fun σ H Q => Fits K f ta tb tc σ H ∧ ∀ H', Ext H H' → Q (.bl true) H'
theorem sameE_imp {K : PySem.W.Frag} {f : Str} {ta tb tc : TE} (σ : L2.St) (H : Hp) (Q : VK) (h : tSameE K f ta tb tc σ H Q) : tOp (rEqD K) (tLeft K f) (tRight K ta tb tc) σ H Q := by
  obtain ⟨⟨s0, s1, v, s3, l, s5, H0, C, d, n, b, c, bs, rfl, hb, hx, hk, hno, g, na, nb, nc, hc⟩, k⟩ := h
  show tLeft K f [s0, s1, some v, s3, some (.ref l), s5] H fun x H1 => tRight K ta tb tc [s0, s1, some v, s3, some (.ref l), s5] H1 fun y H2 => rEqD K x y H2 Q
  refine same_left hb hx hk hno g hc fun D H1 nD x1 hD => same_right rfl (g.ext x1) na nb nc fun q H2 nq x2 hq => ?_
  refine ⟨_, _, dp_ext x2 hD, hq, row_shaped g.lay, row_shaped g.lay, ?_⟩
  rw [PySem.SeqAt.eqv_refl _ (SeqAt.canLay_of_shaped (row_shaped g.lay))]
  exact k H2 (x1.trans x2)
end RG

set_option Elab.async false
set_option linter.all false
set_option maxRecDepth 100000
set_option maxHeartbeats 8000000
namespace RG
open PySem PySem.Spec PyProof.Rows L2
structure Info (K : PySem.W.Frag) (x f : Str) (i j : Nat) : Prop where
  cl : XCl K (He.ga K x)
  row : KitRow K (He.ga K x) tests (rowOf i j)
  no : PySem.W.findIn K (.ref (He.ga K x)) f = some none
theorem info_given {K : PySem.W.Frag} {mg : Str → Option Value} (T : Tx K mg) : ∀ (i : Nat) (x : Str), givens[i]? = some x → Info K x "given" i 0
  | 0, _, h => by
    cases h
    exact ⟨⟨_, _, _, _, T.x_NotAPattern⟩, T.r_NotAPattern, T.i_NotAPattern.no⟩
  | 1, _, h => by
    cases h
    exact ⟨⟨_, _, _, _, T.x_NotARun⟩, T.r_NotARun, T.i_NotARun.no⟩
  | 2, _, h => by
    cases h
    exact ⟨⟨_, _, _, _, T.x_InvalidResistance⟩, T.r_InvalidResistance, T.i_InvalidResistance.no⟩
  | 3, _, h => by
    cases h
    exact ⟨⟨_, _, _, _, T.x_InvalidCount⟩, T.r_InvalidCount, T.i_InvalidCount.no⟩
  | 4, _, h => by
    cases h
    exact ⟨⟨_, _, _, _, T.x_InvalidNumber⟩, T.r_InvalidNumber, T.i_InvalidNumber.no⟩
  | 5, _, h => by
    cases h
    exact ⟨⟨_, _, _, _, T.x_InvalidText⟩, T.r_InvalidText, T.i_InvalidText.no⟩
  | 6, _, h => by
    cases h
    exact ⟨⟨_, _, _, _, T.x_InvalidName⟩, T.r_InvalidName, T.i_InvalidName.no⟩
  | 7, _, h => by
    cases h
    exact ⟨⟨_, _, _, _, T.x_InvalidClaim⟩, T.r_InvalidClaim, T.i_InvalidClaim.no⟩
  | 8, _, h => by
    cases h
    exact ⟨⟨_, _, _, _, T.x_InvalidIndex⟩, T.r_InvalidIndex, T.i_InvalidIndex.no⟩
theorem info_indexed {K : PySem.W.Frag} {mg : Str → Option Value} (T : Tx K mg) : ∀ (i : Nat) (x : Str), indexeds[i]? = some x → Info K x "index" (9 + i) 0
  | 0, _, h => by
    cases h
    exact ⟨⟨_, _, _, _, T.x_InvalidPieces⟩, T.r_InvalidPieces, T.i_InvalidPieces.no⟩
  | 1, _, h => by
    cases h
    exact ⟨⟨_, _, _, _, T.x_InvalidKinds⟩, T.r_InvalidKinds, T.i_InvalidKinds.no⟩
  | 2, _, h => by
    cases h
    exact ⟨⟨_, _, _, _, T.x_InvalidStretches⟩, T.r_InvalidStretches, T.i_InvalidStretches.no⟩
  | 3, _, h => by
    cases h
    exact ⟨⟨_, _, _, _, T.x_InvalidDeeds⟩, T.r_InvalidDeeds, T.i_InvalidDeeds.no⟩
theorem codes_low : ∀ i : Nat, i < 13 → codes (rowOf i 0) = [.int (i : Int), .int 20, .int 23] := by decide +kernel
theorem Rows.get {K : PySem.W.Frag} {H0 H : Hp} {f : Str} {v : V} : ∀ {xs : List Str} {ls : List V} {i : Nat} {y : V}, Rows K H0 H f v xs ls → ls[i]? = some y → ∃ x l, xs[i]? = some x ∧ y = .ref l ∧ Both H0 H f v (He.ga K x) l
  | _, _, _, _, .nil, h => by simp at h
  | _, _, 0, _, .cons b r, h => by
    cases h
    exact ⟨_, _, rfl, rfl, b⟩
  | _, _, i + 1, _, .cons b r, h => by
    obtain ⟨x, l, h1, h2, h3⟩ := r.get (i := i) (by simpa using h)
    exact ⟨x, l, by simpa using h1, h2, h3⟩
theorem Rows.len {K : PySem.W.Frag} {H0 H : Hp} {f : Str} {v : V} : ∀ {xs : List Str} {ls : List V}, Rows K H0 H f v xs ls → xs.length = ls.length
  | _, _, .nil => rfl
  | _, _, .cons _ r => congrArg Nat.succ r.len
theorem good_flat {K : PySem.W.Frag} {H : Hp} {v : V} {d : PyData} (h : Dp K H v d) (n : d.hasDict = false) (z : (d.showable && (decide (d.depth ≤ 50) && (decide (d.shown.length ≤ 1000) && PyData.canLay0 (.str d.shown)))) = true) : Good K H v d := by
  obtain ⟨z1, z⟩ := bb z
  obtain ⟨z2, z⟩ := bb z
  obtain ⟨z3, z4⟩ := bb z
  exact ⟨.of h n, z1, of_decide_eq_true z2, Nat.le_trans (of_decide_eq_true z3) (by decide), z4⟩
theorem good_dic {K : PySem.W.Frag} {H : Hp} {v : V} {d : PyData} (h : Dt K H v d) (z : (d.showable && (decide (d.depth ≤ 50) && (decide (d.shown.length ≤ 1000) && PyData.canLay0 (.str d.shown)))) = true) : Good K H v d := by
  obtain ⟨z1, z⟩ := bb z
  obtain ⟨z2, z⟩ := bb z
  obtain ⟨z3, z4⟩ := bb z
  exact ⟨h, z1, of_decide_eq_true z2, Nat.le_trans (of_decide_eq_true z3) (by decide), z4⟩
def spRight : Sp := fun vs H Q _ => ∃ c, vs = [.ref c] ∧ Cup H c ∧ ∀ H', Chg c H H' → Q (.bl true) H'
section
variable {P : Program} {w : World} {K : PySem.W.Frag} {mg : Str → Option Value} {base : Heap}
theorem ok__law_right (T : Tx K mg) : FnG P w K mg base CX0 4 (He.ga K "_law_right") (fdAt K (He.ga K "_law_right")) ["_law_cup_here"] spRight := by
  refine okG T.d__law_right sc__law_right (fun vs H Q E h => ?_) (fun cdv A outer s H vs Q E hgd hr h => ?_)
  · obtain ⟨c, rfl, _⟩ := h
    rfl
  · obtain ⟨c, rfl, hc, k⟩ := h
    refine ⟨_, PSs.nox (pss_cons (ps_set (i := 1) sc__law_right.nd rfl (Or.inl rfl) (pe_lst (pa_cons pe_non (pa_cons pe_int (pa_cons (pe_un un_neg pe_int) (pa_cons pe_bl (pa_cons pe_str (pa_cons pe_str (pa_cons (pe_tup pa_nil) (pa_cons (pe_tup (pa_cons pe_int (pa_cons pe_int pa_nil))) (pa_cons (pe_lst pa_nil) (pa_cons (pe_lst (pa_cons pe_int pa_nil)) (pa_cons pe_dnewK (pa_cons (pe_disp (pps_cons pe_str pe_int pps_nil) (by rfl) (by rfl) (fun z => by cases z) (by decide)) (pa_cons (pe_op op_pow pe_int pe_int) (pa_cons (pe_tup (pa_cons pe_str (pa_cons pe_int pa_nil))) pa_nil)))))))))))))))) (pss_cons (ps_set (i := 2) sc__law_right.nd rfl (Or.inl rfl) (pe_call (ok__law_pick T) (hr.mono (by decide)) rfl T.g__law_pick T.d__law_pick.kp (bn__law_pick T) .nil pass0 (pa_cons (pv 0) (pa_cons (pv 1) pa_nil)))) (pss_cons (ps_for PassesOwn.never rfl (pi_enum (by rfl) T.n_enumerate (pa_cons (pe_call (ok__law_given T) (hr.mono (by decide)) rfl T.g__law_given T.d__law_given.kp (bn__law_given T) .nil pass0 (pa_cons (pv 2) pa_nil)) pa_nil)) (pg_tup rfl (pgs_cons (pg_name (i := 3) sc__law_right.nd rfl (Or.inl rfl)) (pgs_cons (pg_name (i := 4) sc__law_right.nd rfl (Or.inl rfl)) pgs_nil))) (pss_one (ps_if (pt_imp (pt_cmpR (op_neD hr.units) (pe_lc (own := [("_law_e", 5)]) (g := gName 5) (tt := tYes) rfl sc__law_right.nd (pi_list (pv 4)) (blkOk_by (own := [("_law_e", 5)]) (N := ["_law_cup_here", "_law_things", "_law_thing", "_law_at", "_law_both", "_law_e"]) (sc := defScope s__law_right) (by decide +kernel)) (fun _ _ _ _ _ => (pg_name (i := 5) sc__law_right.nd rfl (Or.inl rfl))) (fun _ _ _ _ _ => pts_nil) (fun _ _ _ _ _ => (pe_op op_cat (pe_call (ok__law_classes T) (hr.mono (by decide)) rfl T.g__law_classes T.d__law_classes.kp (bn__law_classes T) .nil pass0 (pa_cons (pv 5) pa_nil)) (pe_lst (pa_cons (pe_callB (r := rRepr K) (call_repr hgd hr) (by rfl) T.n_repr (by decide +kernel) (pa_cons (pe_xfldK K (pv 5) rfl) pa_nil)) pa_nil))))) (pe_op op_rep (pe_lst (pa_cons (pe_lst (pa_cons (pv 3) (pa_cons pe_int (pa_cons pe_int (pa_cons (pe_callB (r := rRepr K) (call_repr hgd hr) (by rfl) T.n_repr (by decide +kernel) (pa_cons (pv 2) pa_nil)) pa_nil))))) pa_nil)) pe_int) (nomark _)) sameN_imp) (pss_one (ps_ret pe_bl)) pss_nil))) (pss_cons (ps_for PassesOwn.never rfl (pi_enum (by rfl) T.n_enumerate (pa_cons (pe_call (ok__law_indexed T) (hr.mono (by decide)) rfl T.g__law_indexed T.d__law_indexed.kp (bn__law_indexed T) .nil pass0 (pa_cons (pv 2) pa_nil)) pa_nil)) (pg_tup rfl (pgs_cons (pg_name (i := 3) sc__law_right.nd rfl (Or.inl rfl)) (pgs_cons (pg_name (i := 4) sc__law_right.nd rfl (Or.inl rfl)) pgs_nil))) (pss_one (ps_if (pt_imp (pt_cmpR (op_neD hr.units) (pe_lc (own := [("_law_e", 5)]) (g := gName 5) (tt := tYes) rfl sc__law_right.nd (pi_list (pv 4)) (blkOk_by (own := [("_law_e", 5)]) (N := ["_law_cup_here", "_law_things", "_law_thing", "_law_at", "_law_both", "_law_e"]) (sc := defScope s__law_right) (by decide +kernel)) (fun _ _ _ _ _ => (pg_name (i := 5) sc__law_right.nd rfl (Or.inl rfl))) (fun _ _ _ _ _ => pts_nil) (fun _ _ _ _ _ => (pe_op op_cat (pe_call (ok__law_classes T) (hr.mono (by decide)) rfl T.g__law_classes T.d__law_classes.kp (bn__law_classes T) .nil pass0 (pa_cons (pv 5) pa_nil)) (pe_lst (pa_cons (pe_callB (r := rRepr K) (call_repr hgd hr) (by rfl) T.n_repr (by decide +kernel) (pa_cons (pe_xfldK K (pv 5) rfl) pa_nil)) pa_nil))))) (pe_op op_rep (pe_lst (pa_cons (pe_lst (pa_cons (pe_op op_add pe_int (pv 3)) (pa_cons pe_int (pa_cons pe_int (pa_cons (pe_callB (r := rRepr K) (call_repr hgd hr) (by rfl) T.n_repr (by decide +kernel) (pa_cons (pv 2) pa_nil)) pa_nil))))) pa_nil)) pe_int) (nomark _)) sameN_imp) (pss_one (ps_ret pe_bl)) pss_nil))) (pss_cons (ps_set (i := 4) sc__law_right.nd rfl (Or.inl rfl) (pe_imp (pe_lst (pa_cons (pe_xmake T.x_UnknownName T.i_UnknownName.ini T.i_UnknownName.fn (ok_UnknownName_init T) (hr.mono (by decide)) (bn_UnknownName_init T) rfl T.g_UnknownName (pv 2)) (pa_cons (pe_xmakeK T.x_UnknownName T.i_UnknownName.ini T.i_UnknownName.fn (ok_UnknownName_init T) (hr.mono (by decide)) (bk_UnknownName T) rfl T.g_UnknownName (pv 2)) pa_nil))) both_imp)) (pss_cons (ps_if (pt_imp (pt_cmpR (op_neD hr.units) (pe_lc (own := [("_law_e", 5)]) (g := gName 5) (tt := tYes) rfl sc__law_right.nd (pi_list (pv 4)) (blkOk_by (own := [("_law_e", 5)]) (N := ["_law_cup_here", "_law_things", "_law_thing", "_law_at", "_law_both", "_law_e"]) (sc := defScope s__law_right) (by decide +kernel)) (fun _ _ _ _ _ => (pg_name (i := 5) sc__law_right.nd rfl (Or.inl rfl))) (fun _ _ _ _ _ => pts_nil) (fun _ _ _ _ _ => (pe_op op_cat (pe_call (ok__law_classes T) (hr.mono (by decide)) rfl T.g__law_classes T.d__law_classes.kp (bn__law_classes T) .nil pass0 (pa_cons (pv 5) pa_nil)) (pe_lst (pa_cons (pe_callB (r := rRepr K) (call_repr hgd hr) (by rfl) T.n_repr (by decide +kernel) (pa_cons (pe_xfldK K (pv 5) rfl) pa_nil)) pa_nil))))) (pe_op op_rep (pe_lst (pa_cons (pe_lst (pa_cons pe_int (pa_cons pe_int (pa_cons pe_int (pa_cons (pe_callB (r := rRepr K) (call_repr hgd hr) (by rfl) T.n_repr (by decide +kernel) (pa_cons (pv 2) pa_nil)) pa_nil))))) pa_nil)) pe_int) (nomark _)) sameN_imp) (pss_one (ps_ret pe_bl)) pss_nil) (pss_cons (ps_set (i := 4) sc__law_right.nd rfl (Or.inl rfl) (pe_imp (pe_lst (pa_cons (pe_xmake T.x_InUse T.i_InUse.ini T.i_InUse.fn (ok_InUse_init T) (hr.mono (by decide)) (bn_InUse_init T) rfl T.g_InUse (pv 2)) (pa_cons (pe_xmakeK T.x_InUse T.i_InUse.ini T.i_InUse.fn (ok_InUse_init T) (hr.mono (by decide)) (bk_InUse T) rfl T.g_InUse (pv 2)) pa_nil))) both_imp)) (pss_cons (ps_if (pt_imp (pt_cmpR (op_neD hr.units) (pe_lc (own := [("_law_e", 5)]) (g := gName 5) (tt := tYes) rfl sc__law_right.nd (pi_list (pv 4)) (blkOk_by (own := [("_law_e", 5)]) (N := ["_law_cup_here", "_law_things", "_law_thing", "_law_at", "_law_both", "_law_e"]) (sc := defScope s__law_right) (by decide +kernel)) (fun _ _ _ _ _ => (pg_name (i := 5) sc__law_right.nd rfl (Or.inl rfl))) (fun _ _ _ _ _ => pts_nil) (fun _ _ _ _ _ => (pe_op op_cat (pe_call (ok__law_classes T) (hr.mono (by decide)) rfl T.g__law_classes T.d__law_classes.kp (bn__law_classes T) .nil pass0 (pa_cons (pv 5) pa_nil)) (pe_lst (pa_cons (pe_callB (r := rRepr K) (call_repr hgd hr) (by rfl) T.n_repr (by decide +kernel) (pa_cons (pe_xfldK K (pv 5) rfl) pa_nil)) pa_nil))))) (pe_op op_rep (pe_lst (pa_cons (pe_lst (pa_cons pe_int (pa_cons pe_int (pa_cons pe_int (pa_cons (pe_callB (r := rRepr K) (call_repr hgd hr) (by rfl) T.n_repr (by decide +kernel) (pa_cons (pv 2) pa_nil)) pa_nil))))) pa_nil)) pe_int) (nomark _)) sameN_imp) (pss_one (ps_ret pe_bl)) pss_nil) (pss_cons (ps_set (i := 4) sc__law_right.nd rfl (Or.inl rfl) (pe_imp (pe_lst (pa_cons (pe_xmake T.x_TooMany T.i_TooMany.ini T.i_TooMany.fn (ok_TooMany_init T) (hr.mono (by decide)) (bn_TooMany_init T) rfl T.g_TooMany (pv 2)) (pa_cons (pe_xmakeK T.x_TooMany T.i_TooMany.ini T.i_TooMany.fn (ok_TooMany_init T) (hr.mono (by decide)) (bk_TooMany T) rfl T.g_TooMany (pv 2)) pa_nil))) both_imp)) (pss_cons (ps_if (pt_imp (pt_cmpR (op_neD hr.units) (pe_lc (own := [("_law_e", 5)]) (g := gName 5) (tt := tYes) rfl sc__law_right.nd (pi_list (pv 4)) (blkOk_by (own := [("_law_e", 5)]) (N := ["_law_cup_here", "_law_things", "_law_thing", "_law_at", "_law_both", "_law_e"]) (sc := defScope s__law_right) (by decide +kernel)) (fun _ _ _ _ _ => (pg_name (i := 5) sc__law_right.nd rfl (Or.inl rfl))) (fun _ _ _ _ _ => pts_nil) (fun _ _ _ _ _ => (pe_op op_cat (pe_call (ok__law_classes T) (hr.mono (by decide)) rfl T.g__law_classes T.d__law_classes.kp (bn__law_classes T) .nil pass0 (pa_cons (pv 5) pa_nil)) (pe_lst (pa_cons (pe_callB (r := rRepr K) (call_repr hgd hr) (by rfl) T.n_repr (by decide +kernel) (pa_cons (pe_xfldK K (pv 5) rfl) pa_nil)) pa_nil))))) (pe_op op_rep (pe_lst (pa_cons (pe_lst (pa_cons pe_int (pa_cons pe_int (pa_cons pe_int (pa_cons (pe_callB (r := rRepr K) (call_repr hgd hr) (by rfl) T.n_repr (by decide +kernel) (pa_cons (pv 2) pa_nil)) pa_nil))))) pa_nil)) pe_int) (nomark _)) sameN_imp) (pss_one (ps_ret pe_bl)) pss_nil) (pss_cons (ps_set (i := 4) sc__law_right.nd rfl (Or.inl rfl) (pe_imp (pe_lst (pa_cons (pe_xmake T.x_Broken T.i_Broken.ini T.i_Broken.fn (ok_Broken_init T) (hr.mono (by decide)) (bn_Broken_init T) rfl T.g_Broken (pv 2)) (pa_cons (pe_xmakeK T.x_Broken T.i_Broken.ini T.i_Broken.fn (ok_Broken_init T) (hr.mono (by decide)) (bk_Broken T) rfl T.g_Broken (pv 2)) pa_nil))) both_imp)) (pss_one (ps_ret (pe_imp (pe_cmpR (op_eqD hr.units) (pe_lc (own := [("_law_e", 5)]) (g := gName 5) (tt := tYes) rfl sc__law_right.nd (pi_list (pv 4)) (blkOk_by (own := [("_law_e", 5)]) (N := ["_law_cup_here", "_law_things", "_law_thing", "_law_at", "_law_both", "_law_e"]) (sc := defScope s__law_right) (by decide +kernel)) (fun _ _ _ _ _ => (pg_name (i := 5) sc__law_right.nd rfl (Or.inl rfl))) (fun _ _ _ _ _ => pts_nil) (fun _ _ _ _ _ => (pe_op op_cat (pe_call (ok__law_classes T) (hr.mono (by decide)) rfl T.g__law_classes T.d__law_classes.kp (bn__law_classes T) .nil pass0 (pa_cons (pv 5) pa_nil)) (pe_lst (pa_cons (pe_callB (r := rRepr K) (call_repr hgd hr) (by rfl) T.n_repr (by decide +kernel) (pa_cons (pe_xfldK K (pv 5) rfl) pa_nil)) pa_nil))))) (pe_op op_rep (pe_lst (pa_cons (pe_lst (pa_cons pe_int (pa_cons pe_int (pa_cons pe_int (pa_cons (pe_callB (r := rRepr K) (call_repr hgd hr) (by rfl) T.n_repr (by decide +kernel) (pa_cons (pv 2) pa_nil)) pa_nil))))) pa_nil)) pe_int) (nomark _)) sameE_imp)))))))))))))), ?_⟩
    refine ⟨_, rfl, (by show 0 ≤ sizeLine; decide), fun t0 n0 => ?_⟩
    have y0 : Ext H (upd H t0 (.tup [])) := Ext.new (Ext.refl _) n0
    have q0 : (upd H t0 (.tup [])) t0 = some (.tup []) := upd_same
    generalize upd H t0 (.tup []) = G0 at y0 q0 ⊢
    refine ⟨(by show 2 ≤ sizeLine; decide), fun t1 n1 => ?_⟩
    have y1 : Ext G0 (upd G0 t1 (.tup [.int 1, .int 2])) := Ext.new (Ext.refl _) n1
    have q1 : (upd G0 t1 (.tup [.int 1, .int 2])) t1 = some (.tup [.int 1, .int 2]) := upd_same
    generalize upd G0 t1 (.tup [.int 1, .int 2]) = G1 at y1 q1 ⊢
    refine ⟨(by show 0 ≤ sizeLine; decide), fun t2 n2 => ?_⟩
    have y2 : Ext G1 (upd G1 t2 (.lst [])) := Ext.new (Ext.refl _) n2
    have q2 : (upd G1 t2 (.lst [])) t2 = some (.lst []) := upd_same
    generalize upd G1 t2 (.lst []) = G2 at y2 q2 ⊢
    refine ⟨(by show 1 ≤ sizeLine; decide), fun t3 n3 => ?_⟩
    have y3 : Ext G2 (upd G2 t3 (.lst [.int 7])) := Ext.new (Ext.refl _) n3
    have q3 : (upd G2 t3 (.lst [.int 7])) t3 = some (.lst [.int 7]) := upd_same
    generalize upd G2 t3 (.lst [.int 7]) = G3 at y3 q3 ⊢
    refine fun t4 n4 => ?_
    show tDisp _ _ (upd G3 t4 (.dK [])) _
    have y4 : Ext G3 (upd G3 t4 (.dK [])) := Ext.new (Ext.refl _) n4
    have q4 : (upd G3 t4 (.dK [])) t4 = some (.dK []) := upd_same
    generalize upd G3 t4 (.dK []) = G4 at y4 q4 ⊢
    refine fun t5 n5 => ⟨upd_same, [(Sum.inr "a", .int 1)], rfl, by decide, ?_⟩
    have y5 : Ext G4 (upd (upd G4 t5 (.dK [])) t5 (.dK (mergeK [] [((Sum.inr "a" : Key), V.int 1)]))) := Ext.mut (Ext.new (Ext.refl _) n5) n5
    have q5 : (upd (upd G4 t5 (.dK [])) t5 (.dK (mergeK [] [((Sum.inr "a" : Key), V.int 1)]))) t5 = some (.dK [(Sum.inr "a", .int 1)]) := by rw [upd_same]; rfl
    generalize upd (upd G4 t5 (.dK [])) t5 (.dK (mergeK [] [((Sum.inr "a" : Key), V.int 1)])) = G5 at y5 q5 ⊢
    refine ⟨_, _, rfl, rfl, ⟨by decide, by decide, by decide⟩, (by show 2 ≤ sizeLine; decide), fun t6 n6 => ?_⟩
    have y6 : Ext G5 (upd G5 t6 (.tup [.str "rail", .int 3])) := Ext.new (Ext.refl _) n6
    have q6 : (upd G5 t6 (.tup [.str "rail", .int 3])) t6 = some (.tup [.str "rail", .int 3]) := upd_same
    generalize upd G5 t6 (.tup [.str "rail", .int 3]) = G6 at y6 q6 ⊢
    refine ⟨(by show 14 ≤ sizeLine; decide), fun L nL => ?_⟩
    obtain ⟨a, b, hab, hb⟩ := hc
    have yL : Ext G6 (upd G6 L (.lst [V.non, .int 0, .int (-3), .bl true, .str "a", .str "", .ref t0, .ref t1, .ref t2, .ref t3, .ref t4, .ref t5, .int (10 ^ (30 : Int).toNat), .ref t6])) := Ext.new (Ext.refl _) nL
    have qL : (upd G6 L (.lst [V.non, .int 0, .int (-3), .bl true, .str "a", .str "", .ref t0, .ref t1, .ref t2, .ref t3, .ref t4, .ref t5, .int (10 ^ (30 : Int).toNat), .ref t6])) L = some (.lst [V.non, .int 0, .int (-3), .bl true, .str "a", .str "", .ref t0, .ref t1, .ref t2, .ref t3, .ref t4, .ref t5, .int (10 ^ (30 : Int).toNat), .ref t6]) := upd_same
    have hG : ∃ G, G = upd G6 L (.lst [V.non, .int 0, .int (-3), .bl true, .str "a", .str "", .ref t0, .ref t1, .ref t2, .ref t3, .ref t4, .ref t5, .int (10 ^ (30 : Int).toNat), .ref t6]) := ⟨_, rfl⟩
    obtain ⟨G, eG⟩ := hG
    rw [← eG] at yL qL
    show tSeq _ _ _ _ (upd G6 L (.lst [V.non, .int 0, .int (-3), .bl true, .str "a", .str "", .ref t0, .ref t1, .ref t2, .ref t3, .ref t4, .ref t5, .int (10 ^ (30 : Int).toNat), .ref t6]))
    rw [← eG]
    have e6 : Ext H G6 := (((((y0.trans y1).trans y2).trans y3).trans y4).trans y5).trans y6
    have c0 : t0 ≠ c := fun z => by rw [z, (Ext.refl H) _ _ hab] at n0; cases n0
    have s0 := (delH_ne c0).trans ((y1.trans (y2.trans (y3.trans (y4.trans (y5.trans (y6.trans yL)))))) _ _ q0)
    have c1 : t1 ≠ c := fun z => by rw [z, y0 _ _ hab] at n1; cases n1
    have s1 := (delH_ne c1).trans ((y2.trans (y3.trans (y4.trans (y5.trans (y6.trans yL))))) _ _ q1)
    have c2 : t2 ≠ c := fun z => by rw [z, (y0.trans y1) _ _ hab] at n2; cases n2
    have s2 := (delH_ne c2).trans ((y3.trans (y4.trans (y5.trans (y6.trans yL)))) _ _ q2)
    have c3 : t3 ≠ c := fun z => by rw [z, ((y0.trans y1).trans y2) _ _ hab] at n3; cases n3
    have s3 := (delH_ne c3).trans ((y4.trans (y5.trans (y6.trans yL))) _ _ q3)
    have c4 : t4 ≠ c := fun z => by rw [z, (((y0.trans y1).trans y2).trans y3) _ _ hab] at n4; cases n4
    have s4 := (delH_ne c4).trans ((y5.trans (y6.trans yL)) _ _ q4)
    have c5 : t5 ≠ c := fun z => by rw [z, ((((y0.trans y1).trans y2).trans y3).trans y4) _ _ hab] at n5; cases n5
    have s5 := (delH_ne c5).trans ((y6.trans yL) _ _ q5)
    have c6 : t6 ≠ c := fun z => by rw [z, (((((y0.trans y1).trans y2).trans y3).trans y4).trans y5) _ _ hab] at n6; cases n6
    have s6 := (delH_ne c6).trans (yL _ _ q6)
    have cL : L ≠ c := fun z => by rw [z, e6 _ _ hab] at nL; cases nL
    have good : ∀ v ∈ ([V.non, .int 0, .int (-3), .bl true, .str "a", .str "", .ref t0, .ref t1, .ref t2, .ref t3, .ref t4, .ref t5, .int (10 ^ (30 : Int).toNat), .ref t6] : List V), ∃ d, Good K (delH G c) v d := by
      intro v hv
      simp only [List.mem_cons, List.not_mem_nil, or_false] at hv
      rcases hv with rfl | rfl | rfl | rfl | rfl | rfl | rfl | rfl | rfl | rfl | rfl | rfl | rfl | rfl
      · exact ⟨_, good_flat .non rfl (by decide +kernel)⟩
      · exact ⟨_, good_flat (.int _) rfl (by decide +kernel)⟩
      · exact ⟨_, good_flat (.int _) rfl (by decide +kernel)⟩
      · exact ⟨_, good_flat (.bl _) rfl (by decide +kernel)⟩
      · exact ⟨_, good_flat (.str _) rfl (by decide +kernel)⟩
      · exact ⟨_, good_flat (.str _) rfl (by decide +kernel)⟩
      · exact ⟨_, good_flat (.tup (tupT s0) .nil) rfl (by decide +kernel)⟩
      · exact ⟨_, good_flat (.tup (tupT s1) (.cons (.int _) (.cons (.int _) .nil))) rfl (by decide +kernel)⟩
      · exact ⟨_, good_flat (.lst (lstL s2) .nil) rfl (by decide +kernel)⟩
      · exact ⟨_, good_flat (.lst (lstL s3) (.cons (.int _) .nil)) rfl (by decide +kernel)⟩
      · exact ⟨_, good_dic (.dic s4 rfl) (by decide +kernel)⟩
      · exact ⟨_, good_dic (.dic s5 rfl) (by decide +kernel)⟩
      · exact ⟨_, good_flat (.int _) rfl (by decide +kernel)⟩
      · exact ⟨_, good_flat (.tup (tupT s6) (.cons (.str _) (.cons (.int _) .nil))) rfl (by decide +kernel)⟩
    refine ⟨_, rfl, _, rfl, c, L, _, rfl, ⟨a, b, yL _ _ (e6 _ _ hab), hb⟩, lstL qL, cL, (by show 0 < 14; decide), (by show 14 < 1000; decide), fun v H1 hv hc1 ch => ?_⟩
    obtain ⟨d, g⟩ := good v hv
    have g1 : Good K H1 v d := g.ext fun x o h => by
      by_cases n : x = c
      · rw [n, delH_same] at h
        cases h
      · rw [delH_ne n] at h
        exact ch x o n h
    have chH : Chg c H H1 := Chg.trans ((e6.trans yL).chg) ch
    clear good g s0 s1 s2 s3 s4 s5 s6 qL eG
    refine ⟨_, rfl, v, rfl, fun pA lsA H2 npA xA hpA rowsA => ⟨pA, lsA, rfl, lstL hpA, for_it walk_enum (fun i σ H' => ∃ o3 o4 o5, σ = [some (.ref c), some (.ref L), some v, o3, o4, o5] ∧ Ext H2 H') ⟨_, _, _, rfl, Ext.refl _⟩ (fun i σ H' _ ⟨_, _, _, _, e⟩ => e.l (lstL hpA)) ?_ ?_⟩⟩
    · rintro i x σ H' H'' hi ⟨o3, o4, o5, rfl, ex⟩ ⟨Tt, u1, u2, rfl, nT, rfl, e1, e2⟩
      cases e1
      obtain ⟨xn, l, hx, rfl, hb2⟩ := rowsA.get e2
      have I := info_given T i xn hx
      have xT := Ext.new (o := .tup [V.int (i : Nat), .ref l]) ex nT
      have hi2 : i < 9 := (List.getElem?_eq_some_iff.mp hx).1
      refine ⟨Tt, _, rfl, tupT upd_same, rfl, _, _, rfl, ⟨_, _, rfl, ⟨rfl, ⟨⟨_, _, v, _, l, _, H1, _, d, (i : Nat), 20, 23, _, rfl, hb2.ext xT, I.cl, I.row, I.no, g1.ext (xA.trans xT), fun _ _ q => ⟨_, rfl, q⟩, fun _ _ q => q, fun _ _ q => q, codes_low i (by omega)⟩, fun H3 x3 => iteF ⟨_, _, _, rfl, xT.trans x3⟩⟩⟩⟩⟩
    rintro σ H3 ⟨o3, o4, o5, rfl, exA⟩
    have g2 := g1.ext (xA.trans exA)
    have k2 : Chg c H H3 := chH.trans (xA.trans exA).chg
    clear g1
    refine ⟨_, rfl, v, rfl, fun pB lsB H4 npB xB hpB rowsB => ⟨pB, lsB, rfl, lstL hpB, for_it walk_enum (fun i σ H' => ∃ o3 o4 o5, σ = [some (.ref c), some (.ref L), some v, o3, o4, o5] ∧ Ext H4 H') ⟨_, _, _, rfl, Ext.refl _⟩ (fun i σ H' _ ⟨_, _, _, _, e⟩ => e.l (lstL hpB)) ?_ ?_⟩⟩
    · rintro i x σ H' H'' hi ⟨o3, o4, o5, rfl, ex⟩ ⟨Tt, u1, u2, rfl, nT, rfl, e1, e2⟩
      cases e1
      obtain ⟨xn, l, hx, rfl, hb2⟩ := rowsB.get e2
      have I := info_indexed T i xn hx
      have xT := Ext.new (o := .tup [V.int (i : Nat), .ref l]) ex nT
      have hi2 : i < 4 := (List.getElem?_eq_some_iff.mp hx).1
      refine ⟨Tt, _, rfl, tupT upd_same, rfl, _, _, rfl, ⟨_, _, rfl, ⟨rfl, ⟨⟨_, _, v, _, l, _, H3, _, d, (9 + (i : Nat)), 20, 23, _, rfl, hb2.ext xT, I.cl, I.row, I.no, g2.ext (xB.trans xT), fun _ _ q => ⟨_, rfl, _, _, rfl, rfl, q⟩, fun _ _ q => q, fun _ _ q => q, codes_low (9 + i) (by omega)⟩, fun H3 x3 => iteF ⟨_, _, _, rfl, xT.trans x3⟩⟩⟩⟩⟩
    rintro σ H5 ⟨o3', o4', o5', rfl, exB⟩
    have g5 := g2.ext (xB.trans exB)
    have k5 : Chg c H H5 := k2.trans (xB.trans exB).chg
    refine ⟨_, rfl, fun l5 I5 nl5 xl5 bl5 => ?_⟩
    refine ⟨⟨_, _, v, _, l5, _, H5, _, d, 13, 21, 24, _, rfl, bl5, ⟨_, _, _, _, T.x_UnknownName⟩, T.r_UnknownName, T.i_UnknownName.no, g5.ext xl5, fun _ _ q => q, fun _ _ q => q, fun _ _ q => q, (by decide +kernel)⟩, fun J5 z5 => iteF ?_⟩
    have g5' := g5.ext (xl5.trans z5)
    have k5' : Chg c H J5 := k5.trans (xl5.trans z5).chg
    refine ⟨_, rfl, fun l6 I6 nl6 xl6 bl6 => ?_⟩
    refine ⟨⟨_, _, v, _, l6, _, J5, _, d, 14, 21, 24, _, rfl, bl6, ⟨_, _, _, _, T.x_InUse⟩, T.r_InUse, T.i_InUse.no, g5'.ext xl6, fun _ _ q => q, fun _ _ q => q, fun _ _ q => q, (by decide +kernel)⟩, fun J6 z6 => iteF ?_⟩
    have g5'' := g5'.ext (xl6.trans z6)
    have k5'' : Chg c H J6 := k5'.trans (xl6.trans z6).chg
    refine ⟨_, rfl, fun l7 I7 nl7 xl7 bl7 => ?_⟩
    refine ⟨⟨_, _, v, _, l7, _, J6, _, d, 15, 22, 25, _, rfl, bl7, ⟨_, _, _, _, T.x_TooMany⟩, T.r_TooMany, T.i_TooMany.no, g5''.ext xl7, fun _ _ q => q, fun _ _ q => q, fun _ _ q => q, (by decide +kernel)⟩, fun J7 z7 => iteF ?_⟩
    have g5''' := g5''.ext (xl7.trans z7)
    have k5''' : Chg c H J7 := k5''.trans (xl7.trans z7).chg
    refine ⟨_, rfl, fun l8 I8 nl8 xl8 bl8 => ?_⟩
    exact ⟨⟨_, _, v, _, l8, _, J7, _, d, 16, 22, 25, _, rfl, bl8, ⟨_, _, _, _, T.x_Broken⟩, T.r_Broken, T.i_Broken.no, g5'''.ext xl8, fun _ _ q => q, fun _ _ q => q, fun _ _ q => q, (by decide +kernel)⟩, fun J8 z8 => k _ (k5'''.trans (xl8.trans z8).chg)⟩
end
end RG

set_option Elab.async false
set_option linter.all false
set_option maxRecDepth 100000
set_option maxHeartbeats 8000000
namespace RG
open PySem PySem.Spec PyProof.Rows L2
def bareRow (i j : Nat) : PyData := .list (if i < 19 then [.int (i : Int), .int (20 + j : Nat), .int (23 + j : Nat)] else [.int (20 + j : Nat), .int (23 + j : Nat)])
/-- an error without fields, and what its classes are -/
structure Bare (K : PySem.W.Frag) (H : Hp) (e : V) (ns : List Int) : Prop where
  ex : ∃ a C bs, e = .ref a ∧ ErrAt H a C ∧ XCl K C ∧ KitRow K C tests bs ∧ codes bs = ns.map V.int
theorem Bare.ext {K : PySem.W.Frag} {H H1 : Hp} {e : V} {ns : List Int} (b : Bare K H e ns) (x : Ext H H1) : Bare K H1 e ns := by
  obtain ⟨a, C, bs, h1, h2, h3⟩ := b.ex
  exact ⟨a, C, bs, h1, h2.ext x, h3⟩
def Bares (K : PySem.W.Frag) (H : Hp) (es : List V) (nss : List (List Int)) : Prop := es.length = nss.length ∧ ∀ (i : Nat) (e : V), es[i]? = some e → ∃ ns, nss[i]? = some ns ∧ Bare K H e ns
def intsD (ns : List Int) : PyData := .list (ns.map .int)
theorem dpInts {K : PySem.W.Frag} {H : Hp} : ∀ ns : List Int, DpAll K H (ns.map V.int) (ns.map PyData.int)
  | [] => .nil
  | n :: ns => .cons (.int n) (dpInts ns)
theorem bares_left {K : PySem.W.Frag} {σ : L2.St} {H : Hp} {Q : VK} {a : Addr} {es : List V} {nss : List (List Int)} {j k : Nat} (hσ : σ[j]? = some (some (.ref a))) (ha : SqL K H a es) (hb : Bares K H es nss) (hl : nss.length < 1000)
    (hj : ∀ x : V, ((wipe σ [k]).set k (some x))[k]? = some (some x) ∧ wipe ((wipe σ [k]).set k (some x)) [k] = wipe σ [k])
    (q : ∀ D H', H D = none → Ext H H' → Dp K H' (.ref D) (.list (nss.map intsD)) → Q (.ref D) H') :
    tLc (iList K (tVar j)) (gName k) tYes (tCall (spCls K) [] E0 (tCons (tVar k) tNil)) [k] σ H Q := by
  refine ⟨_, hσ, a, rfl, ⟨_, ha⟩, fun D nD => lc_list (K := K) (a := a) (xs := es) (fun i H' => Ext H H' ∧ ∃ acc G, H' D = some (.lst acc) ∧ G D = none ∧ Ext H G ∧ Ext G H' ∧ acc.length = i ∧ DpAll K G acc ((nss.take i).map intsD))
    ⟨Ext.new (Ext.refl H) nD, [], H, upd_same, nD, Ext.refl H, Ext.new (Ext.refl H) nD, rfl, .nil⟩ (fun i H' _ ⟨ex, _⟩ => ex.l ha) ?_ ?_⟩
  · rintro i x H' hi ⟨ex, acc, G, hD, gD, hG, gx, hac, hdp⟩
    obtain ⟨ns, hns, hbare⟩ := hb.2 i x hi
    obtain ⟨e, C, bs, rfl, herr, hx, hk, hc⟩ := hbare.ex
    have hi2 : i < nss.length := (List.getElem?_eq_some_iff.mp hns).1
    refine ⟨(hj (.ref e)).2, ?_⟩
    show tCall (spCls K) [] E0 (tCons (tVar k) tNil) ((wipe σ [k]).set k (some (.ref e))) H' _
    refine ⟨_, (hj (.ref e)).1, e, C, bs, rfl, herr.ext ex, hx, hk, fun r H3 nr x3 hr => ?_⟩
    rw [hc] at hr
    have hD3 := x3 _ _ hD
    have rD : r ≠ D := fun z => by rw [z, hD] at nr; cases nr
    refine ⟨acc, hD3, by rw [hac]; exact Nat.lt_trans hi2 (Nat.lt_trans hl (by decide)), Ext.mut (ex.trans x3) nD, acc ++ [.ref r], delH H3 D, upd_same, delH_same, del_ext (ex.trans x3) nD, Ext.mut ext_del delH_same, by rw [List.length_append, hac]; rfl, ?_⟩
    rw [List.take_add_one, hns, List.map_append]
    exact dpAll_app (dpAll_ext (del_ext (gx.trans x3) gD) hdp) (.cons (.lst (lstL ((delH_ne rD).trans hr)) (dpInts ns)) .nil)
  · rintro H' ⟨ex, acc, G, hD, gD, hG, gx, hac, hdp⟩
    rw [hb.1, List.take_length] at hdp
    exact q D H' nD ex (.lst (lstL hD) (dpAll_ext gx hdp))
def tBares (K : PySem.W.Frag) (j k : Nat) : TE := fun σ H Q => ∃ a es nss, σ[j]? = some (some (.ref a)) ∧ SqL K H a es ∧ Bares K H es nss ∧ nss.length < 1000 ∧
  (∀ x : V, ((wipe σ [k]).set k (some x))[k]? = some (some x) ∧ wipe ((wipe σ [k]).set k (some x)) [k] = wipe σ [k]) ∧ ∀ D H', H D = none → Ext H H' → Dp K H' (.ref D) (.list (nss.map intsD)) → Q (.ref D) H'
theorem bares_imp {K : PySem.W.Frag} {j k : Nat} (σ : L2.St) (H : Hp) (Q : VK) (h : tBares K j k σ H Q) : tLc (iList K (tVar j)) (gName k) tYes (tCall (spCls K) [] E0 (tCons (tVar k) tNil)) [k] σ H Q := by
  obtain ⟨a, es, nss, h1, h2, h3, h4, h5, h6⟩ := h
  exact bares_left h1 h2 h3 h4 h5 h6
def spLaw (K : PySem.W.Frag) : Sp := fun vs H Q _ => ∃ (a : Addr) (ns : List Int), vs = [.ref a] ∧ SqL K H a (ns.map V.int) ∧ ns.length ≤ 63 ∧ ∀ H', Q (.bl true) H'
section
variable {P : Program} {w : World} {K : PySem.W.Frag} {mg : Str → Option Value} {base : Heap}
theorem ok_law (T : Tx K mg) : FnG P w K mg base CX0 5 (He.ga K "law") (fdAt K (He.ga K "law")) ["_law_script"] (spLaw K) := by
  refine okG T.d_law sc_law (fun vs H Q E h => ?_) (fun cdv A outer s H vs Q E hgd hr h => ?_)
  · obtain ⟨a, ns, rfl, _⟩ := h
    rfl
  · obtain ⟨a, ns, rfl, hS, hl, k⟩ := h
    refine ⟨_, PSs.nox (pss_cons (ps_set (i := 1) sc_law.nd rfl (Or.inl rfl) (pe_lst (pa_cons (pe_glob (v := V.int 12) rfl T.k_MOST_OHMS.choose_spec ⟨_, rfl⟩) (pa_cons (pe_glob (v := V.int 4) rfl T.k_MOST_PIECES.choose_spec ⟨_, rfl⟩) (pa_cons (pe_glob (v := V.int 8) rfl T.k_MOST_JOINED.choose_spec ⟨_, rfl⟩) (pa_cons (pe_glob (v := V.int 4) rfl T.k_MOST_KINDS.choose_spec ⟨_, rfl⟩) (pa_cons (pe_glob (v := V.int 100) rfl T.k_MOST_SECTIONS.choose_spec ⟨_, rfl⟩) (pa_cons (pe_glob (v := V.int 1000) rfl T.k_LAST.choose_spec ⟨_, rfl⟩) (pa_cons (pe_glob (v := V.int 1000000000000) rfl T.k_GREATEST.choose_spec ⟨_, rfl⟩) (pa_cons (pe_glob (v := V.ref (He.ga K "OPEN")) rfl T.g_OPEN rfl) pa_nil)))))))))) (pss_cons (ps_if (pt_cmpR op_ne (pe_callB (r := rRepr K) (call_repr hgd hr) (by rfl) T.n_repr (by decide +kernel) (pa_cons (pv 1) pa_nil)) (pe_callB (r := rRepr K) (call_repr hgd hr) (by rfl) T.n_repr (by decide +kernel) (pa_cons (pe_lst (pa_cons pe_int (pa_cons pe_int (pa_cons pe_int (pa_cons pe_int (pa_cons pe_int (pa_cons pe_int (pa_cons (pe_op op_pow pe_int pe_int) (pa_cons (pe_tup (pa_cons pe_int (pa_cons pe_int pa_nil))) pa_nil))))))))) pa_nil)) (nomark _)) (pss_one (ps_ret pe_bl)) pss_nil) (pss_cons (ps_set (i := 2) sc_law.nd rfl (Or.inl rfl) (pe_lst (pa_cons (pe_xmake0 T.x_NoLimit T.q_NoLimit rfl T.g_NoLimit) (pa_cons (pe_xmake0 T.x_NothingToUndo T.q_NothingToUndo rfl T.g_NothingToUndo) (pa_cons (pe_xmake0 T.x_WrongValue T.q_WrongValue rfl T.g_WrongValue) (pa_cons (pe_xmake0 T.x_WrongName T.q_WrongName rfl T.g_WrongName) (pa_cons (pe_xmake0 T.x_NoAnswer T.q_NoAnswer rfl T.g_NoAnswer) pa_nil))))))) (pss_cons (ps_if (pt_cmpR (op_neD hr.units) (pe_imp (pe_lc (own := [("_law_e", 3)]) (g := gName 3) (tt := tYes) rfl sc_law.nd (pi_list (pv 2)) (blkOk_by (own := [("_law_e", 3)]) (N := ["_law_script", "_law_told", "_law_bare", "_law_e", "_law_spot"]) (sc := defScope s_law) (by decide +kernel)) (fun _ _ _ _ _ => (pg_name (i := 3) sc_law.nd rfl (Or.inl rfl))) (fun _ _ _ _ _ => pts_nil) (fun _ _ _ _ _ => (pe_call (ok__law_classes T) (hr.mono (by decide)) rfl T.g__law_classes T.d__law_classes.kp (bn__law_classes T) .nil pass0 (pa_cons (pv 3) pa_nil)))) bares_imp) (pe_lst (pa_cons (pe_lst (pa_cons pe_int (pa_cons pe_int (pa_cons pe_int pa_nil)))) (pa_cons (pe_lst (pa_cons pe_int (pa_cons pe_int (pa_cons pe_int pa_nil)))) (pa_cons (pe_lst (pa_cons pe_int (pa_cons pe_int pa_nil))) (pa_cons (pe_lst (pa_cons pe_int (pa_cons pe_int pa_nil))) (pa_cons (pe_lst (pa_cons pe_int (pa_cons pe_int pa_nil))) pa_nil)))))) (nomark _)) (pss_one (ps_ret pe_bl)) pss_nil) (pss_one (ps_ret (pe_callB (cr_all rfl) (by rfl) T.n_all (by decide +kernel) (pa_cons (pe_lc (own := [("_law_spot", 4)]) (g := gName 4) (tt := tYes) rfl sc_law.nd (pi_range1 rfl T.n_range (pa_cons (pe_callB (call_max2 rfl) (by rfl) T.n_max (by decide +kernel) (pa_cons pe_int (pa_cons (pe_callB (call_min2 rfl) (by rfl) T.n_min (by decide +kernel) (pa_cons (pe_callB call_len_seq (by rfl) T.n_len PySem.boot_len (pa_cons (pv 0) pa_nil)) (pa_cons pe_int pa_nil))) pa_nil))) pa_nil)) (blkOk_by (own := [("_law_spot", 4)]) (N := ["_law_script", "_law_told", "_law_bare", "_law_e", "_law_spot"]) (sc := defScope s_law) (by decide +kernel)) (fun _ _ _ _ _ => (pg_name (i := 4) sc_law.nd rfl (Or.inl rfl))) (fun _ _ _ _ _ => pts_nil) (fun _ _ _ _ _ => (pe_callG (ok__law_right T) hgd (hr.mono (by decide)) rfl T.g__law_right T.d__law_right.kp (bn__law_right T) .nil pass0 (pa_cons (pe_call (ok__law_cup T) (hr.mono (by decide)) rfl T.g__law_cup T.d__law_cup.kp (bn__law_cup T) .nil pass0 (pa_cons (pv 0) (pa_cons (pv 4) pa_nil))) pa_nil)))) pa_nil)))))))), ?_⟩
    refine ⟨(by show 8 ≤ sizeLine; decide), fun p np => ?_⟩
    have y0 : Ext H (upd H p (.lst [.int 12, .int 4, .int 8, .int 4, .int 100, .int 1000, .int 1000000000000, .ref (He.ga K "OPEN")])) := Ext.new (Ext.refl H) np
    have q0 : (upd H p (.lst [.int 12, .int 4, .int 8, .int 4, .int 100, .int 1000, .int 1000000000000, .ref (He.ga K "OPEN")])) p = some (.lst [.int 12, .int 4, .int 8, .int 4, .int 100, .int 1000, .int 1000000000000, .ref (He.ga K "OPEN")]) := upd_same
    generalize upd H p (.lst [V.int 12, .int 4, .int 8, .int 4, .int 100, .int 1000, .int 1000000000000, .ref (He.ga K "OPEN")]) = G0 at y0 q0 ⊢
    have g0 : Good K G0 (.ref p) (.list [.int 12, .int 4, .int 8, .int 4, .int 100, .int 1000, .int 1000000000000, .tuple [.int 1, .int 0]]) :=
      good_flat (.lst (lstL q0) (.cons (.int _) (.cons (.int _) (.cons (.int _) (.cons (.int _) (.cons (.int _) (.cons (.int _) (.cons (.int _) (.cons (.tup (He.tupB_ok T.t_OPEN G0) (.cons (.int _) (.cons (.int _) .nil))) .nil))))))))) rfl (by decide +kernel)
    refine ⟨_, rfl, _, _, rfl, g0.dt, g0.sh, g0.dep, g0.len, ?_⟩
    refine ⟨_, _, rfl, rfl, ⟨by decide, by decide, by decide⟩, (by show 2 ≤ sizeLine; decide), fun t nt => ⟨(by show 8 ≤ sizeLine; decide), fun q nq => ?_⟩⟩
    have y1 : Ext G0 (upd G0 t (.tup [V.int 1, .int 0])) := Ext.new (Ext.refl _) nt
    have qt : (upd G0 t (.tup [V.int 1, .int 0])) t = some (.tup [V.int 1, .int 0]) := upd_same
    generalize upd G0 t (.tup [V.int 1, .int 0]) = G1 at y1 qt nq ⊢
    have y2 : Ext G1 (upd G1 q (.lst [V.int 12, .int 4, .int 8, .int 4, .int 100, .int 1000, .int 1000000000000, .ref t])) := Ext.new (Ext.refl _) nq
    have qq : (upd G1 q (.lst [V.int 12, .int 4, .int 8, .int 4, .int 100, .int 1000, .int 1000000000000, .ref t])) q = some (.lst [V.int 12, .int 4, .int 8, .int 4, .int 100, .int 1000, .int 1000000000000, .ref t]) := upd_same
    have el : ([V.int 12, .int 4, .int 8, .int 4, .int 100, .int 1000, .int (10 ^ (12 : Int).toNat), .ref t] : List V) = [V.int 12, .int 4, .int 8, .int 4, .int 100, .int 1000, .int 1000000000000, .ref t] := rfl
    rw [el]
    generalize upd G1 q (.lst [V.int 12, .int 4, .int 8, .int 4, .int 100, .int 1000, .int 1000000000000, .ref t]) = G2 at y2 qq ⊢
    have g2 : Good K G2 (.ref q) (.list [.int 12, .int 4, .int 8, .int 4, .int 100, .int 1000, .int 1000000000000, .tuple [.int 1, .int 0]]) :=
      good_flat (.lst (lstL qq) (.cons (.int _) (.cons (.int _) (.cons (.int _) (.cons (.int _) (.cons (.int _) (.cons (.int _) (.cons (.int _) (.cons (.tup (tupT (y2 _ _ qt)) (.cons (.int _) (.cons (.int _) .nil))) .nil))))))))) rfl (by decide +kernel)
    refine ⟨_, _, rfl, g2.dt, g2.sh, g2.dep, g2.len, rfl, _, rfl, iteNS rfl ?_⟩
    refine fun e1 n1 => ?_
    have z1 : Ext G2 (upd G2 e1 (exo e1 (He.ga K "NoLimit") none)) := Ext.new (Ext.refl _) n1
    have w1 : (upd G2 e1 (exo e1 (He.ga K "NoLimit") none)) e1 = some (exo e1 (He.ga K "NoLimit") none) := upd_same
    refine fun e2 n2 => ?_
    generalize upd G2 e1 (exo e1 (He.ga K "NoLimit") none) = B1 at z1 w1 n2 ⊢
    have z2 : Ext B1 (upd B1 e2 (exo e2 (He.ga K "NothingToUndo") none)) := Ext.new (Ext.refl _) n2
    have w2 : (upd B1 e2 (exo e2 (He.ga K "NothingToUndo") none)) e2 = some (exo e2 (He.ga K "NothingToUndo") none) := upd_same
    refine fun e3 n3 => ?_
    generalize upd B1 e2 (exo e2 (He.ga K "NothingToUndo") none) = B2 at z2 w2 n3 ⊢
    have z3 : Ext B2 (upd B2 e3 (exo e3 (He.ga K "WrongValue") none)) := Ext.new (Ext.refl _) n3
    have w3 : (upd B2 e3 (exo e3 (He.ga K "WrongValue") none)) e3 = some (exo e3 (He.ga K "WrongValue") none) := upd_same
    refine fun e4 n4 => ?_
    generalize upd B2 e3 (exo e3 (He.ga K "WrongValue") none) = B3 at z3 w3 n4 ⊢
    have z4 : Ext B3 (upd B3 e4 (exo e4 (He.ga K "WrongName") none)) := Ext.new (Ext.refl _) n4
    have w4 : (upd B3 e4 (exo e4 (He.ga K "WrongName") none)) e4 = some (exo e4 (He.ga K "WrongName") none) := upd_same
    refine fun e5 n5 => ?_
    generalize upd B3 e4 (exo e4 (He.ga K "WrongName") none) = B4 at z4 w4 n5 ⊢
    have z5 : Ext B4 (upd B4 e5 (exo e5 (He.ga K "NoAnswer") none)) := Ext.new (Ext.refl _) n5
    have w5 : (upd B4 e5 (exo e5 (He.ga K "NoAnswer") none)) e5 = some (exo e5 (He.ga K "NoAnswer") none) := upd_same
    generalize upd B4 e5 (exo e5 (He.ga K "NoAnswer") none) = B5 at z5 w5  ⊢
    refine ⟨(by show 5 ≤ sizeLine; decide), fun pb nb => ?_⟩
    have zb : Ext B5 (upd B5 pb (.lst [V.ref e1, .ref e2, .ref e3, .ref e4, .ref e5])) := Ext.new (Ext.refl _) nb
    have wb : (upd B5 pb (.lst [V.ref e1, .ref e2, .ref e3, .ref e4, .ref e5])) pb = some (.lst [V.ref e1, .ref e2, .ref e3, .ref e4, .ref e5]) := upd_same
    generalize upd B5 pb (.lst [V.ref e1, .ref e2, .ref e3, .ref e4, .ref e5]) = B at zb wb ⊢
    have bares : Bares K B [V.ref e1, .ref e2, .ref e3, .ref e4, .ref e5] ([[17, 22, 25], [18, 22, 25], [20, 23], [21, 24], [22, 25]] : List (List Int)) := by
      refine ⟨rfl, fun i e he => ?_⟩
      match i, he with
      | 0, he =>
        cases he
        exact ⟨_, rfl, _, _, _, rfl, ⟨none, (z2.trans (z3.trans (z4.trans (z5.trans zb)))) _ _ w1, fun dx q => (by cases q)⟩, ⟨_, _, _, _, T.x_NoLimit⟩, T.r_NoLimit, (by decide +kernel)⟩
      | 1, he =>
        cases he
        exact ⟨_, rfl, _, _, _, rfl, ⟨none, (z3.trans (z4.trans (z5.trans zb))) _ _ w2, fun dx q => (by cases q)⟩, ⟨_, _, _, _, T.x_NothingToUndo⟩, T.r_NothingToUndo, (by decide +kernel)⟩
      | 2, he =>
        cases he
        exact ⟨_, rfl, _, _, _, rfl, ⟨none, (z4.trans (z5.trans zb)) _ _ w3, fun dx q => (by cases q)⟩, ⟨_, _, _, _, T.x_WrongValue⟩, T.r_WrongValue, (by decide +kernel)⟩
      | 3, he =>
        cases he
        exact ⟨_, rfl, _, _, _, rfl, ⟨none, (z5.trans zb) _ _ w4, fun dx q => (by cases q)⟩, ⟨_, _, _, _, T.x_WrongName⟩, T.r_WrongName, (by decide +kernel)⟩
      | 4, he =>
        cases he
        exact ⟨_, rfl, _, _, _, rfl, ⟨none, zb _ _ w5, fun dx q => (by cases q)⟩, ⟨_, _, _, _, T.x_NoAnswer⟩, T.r_NoAnswer, (by decide +kernel)⟩
    refine ⟨pb, _, _, rfl, lstL wb, bares, (by show 5 < 1000; decide), fun x => ⟨rfl, rfl⟩, fun D H1 nD x1 hD => ?_⟩
    refine ⟨(by show 3 ≤ sizeLine; decide), fun r1 m1 => ?_⟩
    have u1 : Ext H1 (upd H1 r1 (.lst [V.int 17, .int 22, .int 25])) := Ext.new (Ext.refl _) m1
    have v1 : (upd H1 r1 (.lst [V.int 17, .int 22, .int 25])) r1 = some (.lst [V.int 17, .int 22, .int 25]) := upd_same
    generalize upd H1 r1 (.lst [V.int 17, .int 22, .int 25]) = C1 at u1 v1 ⊢
    refine ⟨(by show 3 ≤ sizeLine; decide), fun r2 m2 => ?_⟩
    have u2 : Ext C1 (upd C1 r2 (.lst [V.int 18, .int 22, .int 25])) := Ext.new (Ext.refl _) m2
    have v2 : (upd C1 r2 (.lst [V.int 18, .int 22, .int 25])) r2 = some (.lst [V.int 18, .int 22, .int 25]) := upd_same
    generalize upd C1 r2 (.lst [V.int 18, .int 22, .int 25]) = C2 at u2 v2 ⊢
    refine ⟨(by show 2 ≤ sizeLine; decide), fun r3 m3 => ?_⟩
    have u3 : Ext C2 (upd C2 r3 (.lst [V.int 20, .int 23])) := Ext.new (Ext.refl _) m3
    have v3 : (upd C2 r3 (.lst [V.int 20, .int 23])) r3 = some (.lst [V.int 20, .int 23]) := upd_same
    generalize upd C2 r3 (.lst [V.int 20, .int 23]) = C3 at u3 v3 ⊢
    refine ⟨(by show 2 ≤ sizeLine; decide), fun r4 m4 => ?_⟩
    have u4 : Ext C3 (upd C3 r4 (.lst [V.int 21, .int 24])) := Ext.new (Ext.refl _) m4
    have v4 : (upd C3 r4 (.lst [V.int 21, .int 24])) r4 = some (.lst [V.int 21, .int 24]) := upd_same
    generalize upd C3 r4 (.lst [V.int 21, .int 24]) = C4 at u4 v4 ⊢
    refine ⟨(by show 2 ≤ sizeLine; decide), fun r5 m5 => ?_⟩
    have u5 : Ext C4 (upd C4 r5 (.lst [V.int 22, .int 25])) := Ext.new (Ext.refl _) m5
    have v5 : (upd C4 r5 (.lst [V.int 22, .int 25])) r5 = some (.lst [V.int 22, .int 25]) := upd_same
    generalize upd C4 r5 (.lst [V.int 22, .int 25]) = C5 at u5 v5 ⊢
    refine ⟨(by show 5 ≤ sizeLine; decide), fun rr mr => ?_⟩
    have ur : Ext C5 (upd C5 rr (.lst [V.ref r1, .ref r2, .ref r3, .ref r4, .ref r5])) := Ext.new (Ext.refl _) mr
    have vr : (upd C5 rr (.lst [V.ref r1, .ref r2, .ref r3, .ref r4, .ref r5])) rr = some (.lst [V.ref r1, .ref r2, .ref r3, .ref r4, .ref r5]) := upd_same
    generalize upd C5 rr (.lst [V.ref r1, .ref r2, .ref r3, .ref r4, .ref r5]) = C6 at ur vr ⊢
    have hR : Dp K C6 (.ref rr) (.list (([[17, 22, 25], [18, 22, 25], [20, 23], [21, 24], [22, 25]] : List (List Int)).map intsD)) := .lst (lstL vr) (.cons (.lst (lstL ((u2.trans (u3.trans (u4.trans (u5.trans ur)))) _ _ v1)) (.cons (.int _) (.cons (.int _) (.cons (.int _) .nil)))) (.cons (.lst (lstL ((u3.trans (u4.trans (u5.trans ur))) _ _ v2)) (.cons (.int _) (.cons (.int _) (.cons (.int _) .nil)))) (.cons (.lst (lstL ((u4.trans (u5.trans ur)) _ _ v3)) (.cons (.int _) (.cons (.int _) .nil))) (.cons (.lst (lstL ((u5.trans ur) _ _ v4)) (.cons (.int _) (.cons (.int _) .nil))) (.cons (.lst (lstL (ur _ _ v5)) (.cons (.int _) (.cons (.int _) .nil))) .nil)))))
    have sh : SeqAt.shaped (.list (([[17, 22, 25], [18, 22, 25], [20, 23], [21, 24], [22, 25]] : List (List Int)).map intsD)) = true := by decide +kernel
    have uu : Ext H1 C6 := u1.trans (u2.trans (u3.trans (u4.trans (u5.trans ur))))
    refine ⟨_, _, dp_ext uu hD, hR, sh, sh, _, rfl, ?_⟩
    rw [SeqAt.eqv_refl _ (SeqAt.canLay_of_shaped sh)]
    refine iteF ?_
    have yy : Ext H C6 := ((((((y0.trans y1).trans y2).trans z1).trans (z2.trans (z3.trans (z4.trans (z5.trans zb))))).trans x1)).trans uu
    have hS2 := yy.l hS
    have hlen : (ns.map V.int).length = ns.length := List.length_map ..
    refine ⟨_, rfl, a, _, rfl, .inl hS2, _, _, rfl, _, _, rfl, ?_⟩
    generalize hm : (if (if (8 : Int) < ((ns.map V.int).length : Nat) then (8 : Int) else ((ns.map V.int).length : Nat)) > 2 then (if (8 : Int) < ((ns.map V.int).length : Nat) then (8 : Int) else ((ns.map V.int).length : Nat)) else 2) = m
    have hm1 : 2 ≤ m ∧ m ≤ 8 := by rw [← hm]; repeat' split <;> omega
    refine ⟨m, rfl, by omega, by omega, fun D nD2 => lc_range (lo := 0) (n := m.toNat) (fun i H' => Ext C6 H' ∧ H' D = some (.lst (List.replicate i (.bl true)))) ⟨Ext.new (Ext.refl _) nD2, upd_same⟩ ?_ ?_⟩
    · rintro i H' hi ⟨ex, hD2⟩
      refine ⟨rfl, _, rfl, _, rfl, a, ns, _, rfl, ex.l hS2, hl, by omega, by omega, fun c H2 nc x2 hc => ⟨c, rfl, hc, fun H3 ch => ?_⟩⟩
      have x3 : Ext H' H3 := fun x o h => ch x o (ne_of_none h nc) (x2 x o h)
      refine ⟨_, x3 _ _ hD2, (by rw [List.length_replicate]; exact Nat.lt_of_lt_of_le (show i < 9 by omega) (by decide)), Ext.mut (ex.trans x3) nD2, ?_⟩
      rw [upd_same, List.replicate_succ']
    · rintro H' ⟨ex, hD2⟩
      refine ⟨D, List.replicate m.toNat true, rfl, ?_, ?_⟩
      · rw [List.map_replicate]
        exact lstL hD2
      · have e : (List.replicate m.toNat true).all id = true := by simp
        show Q (.bl ((List.replicate m.toNat true).all id)) H'
        rw [e]
        exact k H'
end
end RG

set_option Elab.async false
set_option linter.all false
set_option maxRecDepth 100000
set_option maxHeartbeats 0
namespace RG
open PySem PySem.Spec PyProof.Rows L2 HandSHeadRun
abbrev R : PySem.W.OpenRow := PySem.W.OpenLaw.row PySem.Challenge.rw_rungladders_k01_constants_and_errors
abbrev qv : Program := PySem.W.view R.prog [39]
def ob (s : PySem.W.SharedT) : AlX := obsX 4 chk fns (getT s)
def loose : List Str := (["WrongValue", "NotAPattern", "NotARun", "InvalidResistance", "InvalidCount", "InvalidNumber", "InvalidText", "InvalidName", "InvalidClaim", "InvalidIndex", "InvalidPieces", "InvalidKinds"] : List Str) ++ (["InvalidStretches", "InvalidDeeds", "WrongName", "UnknownName", "InUse", "NoAnswer", "TooMany", "Broken", "NoLimit", "NothingToUndo", "MOST_OHMS", "MOST_PIECES"] : List Str) ++ (["MOST_JOINED", "MOST_KINDS", "MOST_SECTIONS", "LAST", "GREATEST", "OPEN", "_law_cup", "_law_sip", "_law_pick", "_law_classes", "_law_given", "_law_indexed"] : List Str) ++ (["_law_right"] : List Str)
theorem runA (w : World) (os : OsState) : (endF (stepQ (denQ tabQ) R.prog w) 9000 R.prog w os).map (fun s => looksF R.prog (PySem.W.boot_heap w.params) s.abs) = some true := by
  kernel_rfl
theorem runB (w : World) (os : OsState) : (endF (stepQ (denQ tabQ) R.prog w) 9000 R.prog w os).map (fun s => seenQ qv loose (importedModules R.prog.main.body) (fun s => PySem.W.xlAt qv [] s && PySem.W.recOk R.toRowW.records s) s.abs) = some (PySem.W.openGood qv loose) := by
  kernel_rfl
theorem runC (w : World) (os : OsState) : (endF (stepQ (denQ tabQ) R.prog w) 9000 R.prog w os).map (fun s => ob s) = some ((hookX 4 chk fns).val w) := by
  kernel_rfl
theorem run (w : World) : RunEq R qv (hookX 4 chk fns) ob 9000 loose w := fun os => join3 (runA w os) (runB w os) (runC w os)
end RG

set_option Elab.async false
set_option linter.all false
set_option maxRecDepth 100000
set_option maxHeartbeats 0
namespace RG
open PySem PySem.Spec PyProof.Rows L2
theorem law_facts {P : Program} {w : World} {K : PySem.W.Frag} {h : Heap} {mg : Str → Option Value} {f : Addr} (X : K.In h) (G : h.Ns mainGlobals mg) (hfa : mg ("law" : Str) = some (.ref f)) (c : SaysX chk fns K) :
    ∃ fd : FuncData, (∀ (s : Shared) (v : Value), BindsTo s fd ⟨[v], []⟩ [("_law_script", v)]) ∧ ∀ base : Heap, K.In base → base.Ns mainGlobals mg → FnG P w K mg base CX0 5 f fd ["_law_script"] (spLaw K) := by
  have T := tx_of X G c
  have e := hfa.symm.trans T.g_law
  cases e
  have b := FunD.bindsA (ps := ["_law_script"]) T.d_law fun _ _ _ _ _ _ us hl => match us, hl with | [_], _ => rfl
  exact ⟨_, fun s v => b s [v] rfl, fun base _ _ => ok_law T⟩
end RG
open PySem PySem.W PySem.Calls PyProof.Rows
set_option maxRecDepth 100000 in
set_option maxHeartbeats 0 in
theorem PySem.Challenge.cw_rungladders_k01_constants_and_errors_holds : PySem.Challenge.rw_rungladders_k01_constants_and_errors.Holds := by
  w_on; o_law
  refine HandSHeadRun.head_any (r := OpenLaw.row PySem.Challenge.rw_rungladders_k01_constants_and_errors) (q := RG.qv) (H := RG.hookX 4 RG.chk RG.fns) (ob := RG.ob) (M := 9000) (loose := RG.loose) (d := HandSHeadRun.topDef (OpenLaw.row PySem.Challenge.rw_rungladders_k01_constants_and_errors).prog 39) (kwd := []) RG.obsX_eq
    (by kernel_rfl) (fun s => by kernel_rfl) RG.run (by kernel_rfl) (by kernel_rfl) (by kernel_rfl) (by rfl) (by first | assumption | decide +kernel) (by decide +kernel) ⟨rfl, rfl, rfl, rfl, rfl, by decide +kernel⟩ ?hw ?hc
  case hw => w_witness2
  case hc =>
    refine RG.walkG (l := PySem.Challenge.rw_rungladders_k01_constants_and_errors) (n := 63) (k := 5) (x := "_law_script") (CX := L2.CX0) rfl (by decide) (by kernel_rfl) ⟨rfl, by decide, by decide⟩ ?F (fun _ _ _ _ z => z)
    intro w mg fa h Y G hmg0
    obtain ⟨K, KX, c⟩ := Y
    have hmg : mg ("law" : PySem.Str) = some (.ref fa) := by
      have e : (HandSHeadRun.topDef (OpenLaw.row PySem.Challenge.rw_rungladders_k01_constants_and_errors).prog 39).name = ("law" : PySem.Str) := by kernel_rfl
      rw [← e]
      exact hmg0
    obtain ⟨fd, hb, hF⟩ := RG.law_facts (P := (PySem.Challenge.rw_rungladders_k01_constants_and_errors).prog) (w := w) KX G hmg c
    exact ⟨K, fd, RG.spLaw K, KX, hb, fun H a ns hl _ hS => ⟨a, ns, rfl, hS, hl, fun _ => rfl⟩, hF⟩
#print axioms PySem.Challenge.cw_rungladders_k01_constants_and_errors_holds

