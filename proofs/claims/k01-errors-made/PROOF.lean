import PyProof.Rows.All
import Wide.All
import OpenK.AllK
import Wide.FinOn
import HandS.ForMost
import HandS.ForExc
import HandS.Flow
import HandS.IsInst
import PyProof.ReprRoads
import HandS.ExcInit
import HandS.ExcField
import HandS.ExcIs
import HandS.MakeKwOnly
import HandS.ExcValue
import HandS.NoneIn
import PySem.Challenge.RW_treequill_k01_errors_made
set_option Elab.async false
set_option linter.all false
set_option maxRecDepth 100000
set_option maxHeartbeats 4000000
/-! ### Tq: a def's promise where no repr runs around it (the guards are known to be none), and the end of a law by it -/
namespace Tq
open PySem L2 PySem.Spec PyProof.Rows
abbrev Quiet (A : Around) : Prop := A.guards = some []
/-- as FnOk, asked only where no repr is running -/
structure FnG (P : Program) (w : World) (K : PySem.W.Frag) (mg : Str → Option Value) (base : Heap) (CX : CXT) (k : Nat) (f : Addr)
    (fd : FuncData) (ps : List Str) (sp : Sp) : Prop where
  len : ∀ vs H Q E, sp vs H Q E → vs.length = ps.length
  run : ∀ (A : Around) (outer : List Env) (s : Shared) (H : Hp) (args : Args) (us : List Value) (vs : List V) (Q : VK) (E : XK),
    Quiet A → Room k A → Env0 P w K mg base A outer s H → BindsTo s fd args (ps.zip us) → Vals vs us → sp vs H Q E →
    codeAny (model P w) A (.call (.ref f) args) (CR CX outer P w H s Q E) s
section
variable {P : Program} {w : World} {K : PySem.W.Frag} {mg : Str → Option Value} {base : Heap} {CX : CXT} {j k : Nat} {f : Addr}
  {fd : FuncData} {N ps : List Str} {sp sp' : Sp}
theorem FnG.of (F : FnOk P w K mg base CX k f fd ps sp) : FnG P w K mg base CX k f fd ps sp :=
  ⟨F.len, fun A o s H a us vs Q E _ => F.run A o s H a us vs Q E⟩
theorem FnG.up (F : FnG P w K mg base CX j f fd ps sp) (h : j ≤ k) : FnG P w K mg base CX k f fd ps sp :=
  ⟨F.len, fun A o s H a us vs Q E g hr => F.run A o s H a us vs Q E g (hr.mono h)⟩
theorem FnG.imp (F : FnG P w K mg base CX k f fd ps sp) (h : ∀ vs H Q E, sp' vs H Q E → sp vs H Q E) : FnG P w K mg base CX k f fd ps sp' :=
  ⟨fun vs H Q E q => F.len vs H Q E (h _ _ _ _ q), fun A o s H a us vs Q E g hr e b v q => F.run A o s H a us vs Q E g hr e b v (h _ _ _ _ q)⟩
/-- a def by its body, where no repr runs -/
theorem okG {x qual : Str} {st : Stmt} (F : Fun K x qual st f fd) (S : FnScope N ps (defScope st)) (len : ∀ vs H Q E, sp vs H Q E → vs.length = ps.length)
    (body : ∀ (cdv : Value) (A : Around) (outer : List Env) (s : Shared) (H : Hp) (vs : List V) (Q : VK) (E : XK),
      Quiet (A.deeper (envOfC qual (defScope st) s.heap.objs.size f cdv)) → Room k (A.deeper (envOfC qual (defScope st) s.heap.objs.size f cdv)) → sp vs H Q E →
      ∃ t, PSs (cxOf CX P w K mg base N qual (defScope st) f cdv A outer s H E) (defBody st) t ∧
        t { nx := fun _ H' => Q .non H', rt := Q } (start N vs) H) : FnG P w K mg base CX (k + 1) f fd ps sp := by
  obtain ⟨oc, od, kV, doc, pm, an, cdv, ct, osl, rfl, lk, hcd⟩ := F.ex
  refine ⟨len, fun A outer s H args us vs Q E hq hr e0 hb r hsp => ?_⟩
  have hlen := len _ _ _ _ hsp
  have keepB : ∀ b o, base.get? b = some o → s.heap.get? b = some o := fun b o e => (e0.bs b o e).1
  have KX : K.In s.heap := e0.mod.kin.keeps keepB
  have noLim : s.heap.NoLimit := e0.mod.nolimit.keeps keepB
  have kinds : ∀ y ∈ ps.zip us, (defScope st).names.lookup y.1 = some .local ∨
      ((defScope st).names.lookup y.1 = some .cell ∧ ((cellsFrom (s.heap.objs.size + 1) (defScope st).names []).lookup y.1).isSome = true) := by
    rintro ⟨n, v⟩ hy
    rcases S.par n (List.of_mem_zip hy).1 with q | q
    · exact Or.inl q
    · exact Or.inr ⟨q, PySem.W.cellsFrom_some _ _ _ (Or.inl q)⟩
  refine codeAny_call_function hr.depth (KX _ _ lk) rfl S.co S.gen rfl (PySem.W.codeRec_of KX hcd) (hb _ _ _ _ ?_)
  refine wpAny_newFunctionEnv_cells S.kind kinds fun env he s1 x => ?_
  subst he
  refine ⟨noLim.keeps x.toInCall.keep, codeAny_func ?_⟩
  obtain ⟨t, ht, hq2⟩ := body cdv A outer s H vs Q E hq (hr.deeper _) hsp
  have I : Inv (cxOf CX P w K mg base N qual (defScope st) f cdv A outer s H E) [] (start N vs) H s1 := inv_start S hr.hd e0 hlen r x
  refine wpAny_mono (ht.run [] s1 (start N vs) H _ I hq2) (fun fl s' hs => ?_) fun e s' hs => hs
  cases fl with
  | ret u =>
    obtain ⟨v, σ', H', J, rv, q⟩ := hs
    exact ⟨v, H', J.os, J.bare, J.base, J.hok, rv, q⟩
  | next =>
    obtain ⟨σ', H', J, q⟩ := hs
    exact ⟨V.non, H', J.os, J.bare, J.base, J.hok, (rfl : Value.none = Value.none), q⟩
  | brk =>
    obtain ⟨_, _, _, q⟩ := hs
    exact q.elim
  | cont =>
    obtain ⟨_, _, _, q⟩ := hs
    exact q.elim
end
section
variable {P : Program} {w : World} {K : PySem.W.Frag} {mg : Str → Option Value} {base : Heap} {k : Nat} {f : Addr} {fd : FuncData} {N ps : List Str} {sp : Sp}
/-- a def that lets no error out -/
theorem okG0 {x qual : Str} {st : Stmt} (F : Fun K x qual st f fd) (S : FnScope N ps (defScope st)) (len : ∀ vs H Q E, sp vs H Q E → vs.length = ps.length)
    (body : ∀ (cdv : Value) (A : Around) (outer : List Env) (s : Shared) (H : Hp) (vs : List V) (Q : VK) (E : XK),
      Quiet (A.deeper (envOfC qual (defScope st) s.heap.objs.size f cdv)) → Room k (A.deeper (envOfC qual (defScope st) s.heap.objs.size f cdv)) → sp vs H Q E →
      ∃ t, PSs (cxOf CX0 P w K mg base N qual (defScope st) f cdv A outer s H E).nox (defBody st) t ∧
        t { nx := fun _ H' => Q .non H', rt := Q } (start N vs) H) : FnG P w K mg base CX0 (k + 1) f fd ps sp :=
  okG F S len fun cdv A outer s H vs Q E hq hr h => let ⟨t, h1, h2⟩ := body cdv A outer s H vs Q E hq hr h; ⟨t, h1.nox, h2⟩
end
/-- a def of the top by its name, packed -/
structure Df (P : Program) (w : World) (K : PySem.W.Frag) (mg : Str → Option Value) (base : Heap) (CX : CXT) (k : Nat) (x : Str) (sp : Sp) : Prop where
  ex : ∃ (f : Addr) (fd : FuncData) (ps : List Str), mg x = some (.ref f) ∧ PySem.W.keepIn K (.ref f) = true ∧ Binds K fd ps [] ∧ FnG P w K mg base CX k f fd ps sp
section
variable {X : Cx} {CX : CXT} {j k : Nat} {sp : Sp} {E : XK} {x : Str} {p pos : Pos} {e : Expr} {es : List Expr} {t : TA}
theorem run_df {pins : List (Addr × Obj)} {σ : L2.St} {H : Hp} {s : Shared} {Q : VK} {us : List Value} {vs : List V} {f : Addr} {fd : FuncData} {ps : List Str}
    (F : FnG X.prog X.w X.K X.mg X.base CX k f fd ps sp) (hq : Quiet X.A) (hr : Room k X.A) (hb : Binds X.K fd ps []) (hx : Passes CX X E)
    (I : Inv X pins σ H s) (r : Vals vs us) (h : sp vs H Q E) : wpAny (model X.prog X.w) X.A (call (.ref f) us) (EP X pins σ Q) X.xe s := by
  have hl : us.length = ps.length := by rw [← r.length]; exact F.len _ _ _ _ h
  have hb2 := hb s us I.kIn (by rw [List.append_nil]; exact hl)
  rw [List.append_nil] at hb2
  refine wpAny_call (codeAny_mono (F.run X.A X.stack s H ⟨us, []⟩ us vs Q E hq hr I.env0 hb2 r h) fun r s' hq => ?_)
  cases r with
  | error e => exact hx pins σ H s e s' I hq
  | ok fl =>
    cases fl with
    | ret u => exact I.after hq
    | next => exact hq.elim
    | brk => exact hq.elim
    | cont => exact hq.elim
def tDf (sp : Sp) (E : XK) (t : TA) : TE := fun σ H Q => t σ H fun vs H1 => sp vs H1 Q E
/-- f(e, ..), f a def of the top -/
theorem pe_df (c : Df X.prog X.w X.K X.mg X.base CX k x sp) (hq : Quiet X.A) (hr : Room j X.A) (hx : Passes CX X E) (ha : PA X (e :: es) t)
    (hk : k ≤ j := by omega) (hg : Gl X x := by rfl) (hdb : (x == ("__debug__" : Str)) = false := by decide)
    (he : starEach (e :: es) X.env = (false, eval e X.env) :: starEach es X.env := by rfl) (hpl : (backTo pos (starEach es X.env)).any (·.1) = false := by rfl) :
    PE X (.Call (.Name x p) (e :: es) [] pos) (tDf sp E t) := by
  obtain ⟨f, fd, ps, hm, hkp, hb, F⟩ := c.ex
  refine ⟨fun pins s σ H Q I h => ?_⟩
  refine wpAny_Call_Name_kw (ld_glob I hg hm ?_ hdb)
  refine PySem.W.callWith_K (h₀ := X.base) I.ok.mod.kin hkp (thn (ha.run pos pins s σ H _ I h) fun us s1 hh => ?_) he hpl
  obtain ⟨vs, H1, I1, r1, q1⟩ := hh
  exact ⟨I1.kIn, run_df F hq (hr.mono hk) hb hx I1 r1 q1⟩
end
/-! ### the end of a law -/
theorem lawG {P : Program} {w : World} {K : PySem.W.Frag} {mg mb : Str → Option Value} {CX : CXT} {k : Nat} {fa a : Addr} {fd : FuncData} {x : Str} {sp : Sp}
    {s₁ : Shared} {vs : List Value} {ns : List Int} (KX : K.In s₁.heap) (hns : s₁.heap.Ns mainGlobals mg) (hb : s₁.heap.Ns builtinsNs mb)
    (hbb : ∀ x : Str, x ≠ "__name__" → mb x = bootBuiltins x) (hlim : s₁.heap.NoLimit) (hg : s₁.gens = #[])
    (ha : s₁.heap.get? a = some { cls := .type "list", data := .seq vs.toArray }) (hi : IntsAre vs ns) (hl : ns.length ≤ sizeLine) (hr : Room k callerA)
    (F : ∀ base : Heap, K.In base → base.Ns mainGlobals mg → FnG P w K mg base CX k fa fd [x] sp)
    (hbind : ∀ (s : Shared) (u : Value), BindsTo s fd ⟨[u], []⟩ [(x, u)])
    (hsp : ∀ H : Hp, Only H → SqL K H a (ns.map V.int) → sp [.ref a] H (fun v _ => v = .bl true) fun _ _ _ => False)
    (hCX : ∀ H e s', CX [] H s₁ (fun _ _ _ => False) e s' → False) :
    codeAny (model P w) callerA (.call (.ref fa) ⟨[.ref a], []⟩)
      (fun r s' => r = .ok (.ret (.bool true)) ∧ OldK s₁.heap s'.heap ∧ s'.os = s₁.os ∧ AllBare s'.gens) s₁ := by
  have rels := vals_ints hi
  have lenV := hi.length
  have main : ∀ H : Hp, Only H → SqL K H a (ns.map V.int) → HOk P w H s₁.heap → (∀ b, H b ≠ none → b = a) → (H a ≠ none → K.lookup a = none) →
      codeAny (model P w) callerA (.call (.ref fa) ⟨[.ref a], []⟩)
        (fun r s' => r = .ok (.ret (.bool true)) ∧ OldK s₁.heap s'.heap ∧ s'.os = s₁.os ∧ AllBare s'.gens) s₁ := by
    intro H hO hS hok hA hK
    have none_or : ∀ b, H b = none ∨ b = a := fun b => by
      by_cases q : H b = none
      · exact Or.inl q
      · exact Or.inr (hA b q)
    have noDict : ∀ {b : Addr} {o : Obj} {es : Array DictEntry} {ep : Nat}, s₁.heap.get? b = some o → o.data = .dict es ep → H b = none := by
      intro b o es ep e d
      rcases none_or b with q | q
      · exact q
      · rw [q, ha] at e
        cases e
        exact nomatch d
    have nsK : ∀ {b : Addr} {m : Str → Option Value}, s₁.heap.Ns b m → (hidT s₁.heap H).Ns b m := by
      rintro b m ⟨o, es, ep, e, d, r⟩
      exact ⟨o, es, ep, hidT_get e (noDict e d), d, r⟩
    have inB : K.In (hidT s₁.heap H) := by
      intro b o e
      refine hidT_get (KX b o e) ?_
      rcases none_or b with q | q
      · exact q
      · by_cases z : H b = none
        · exact z
        · rw [q] at z e
          rw [hK z] at e
          cases e
    have modB : Mod K mg (hidT s₁.heap H) := by
      obtain ⟨mc, l1, l2⟩ := hlim
      exact ⟨inB, nsK hns, ⟨mb, nsK hb, hbb⟩, ⟨mc, nsK l1, l2⟩⟩
    have e0 : Env0 P w K mg (hidT s₁.heap H) callerA [] s₁ H :=
      ⟨rfl, modB, fun b o e => of_hidT e, Nat.le_of_eq (hidT_size _ _), trivial, fun b hb => absurd (show b ∈ ([] : List Addr) from hb) (by simp), hok, .of_eq hg⟩
    have run := (F _ inB (nsK hns)).run callerA [] s₁ H ⟨[.ref a], []⟩ [.ref a] [.ref a] _ _ rfl hr e0 (hbind s₁ (.ref a)) (.cons rfl .nil) (hsp H hO hS)
    refine codeAny_mono run fun r s' h => ?_
    cases r with
    | error e => exact (hCX H e s' h).elim
    | ok fl =>
      cases fl with
      | next => exact h.elim
      | brk => exact h.elim
      | cont => exact h.elim
      | ret u =>
        obtain ⟨v, H', os, bare, un, hok', r', q⟩ := h
        obtain rfl : v = V.bl true := q
        obtain rfl : u = Value.bool true := r'
        refine ⟨rfl, OldK.of_keep fun b o e => ?_, os, bare⟩
        cases q : H b with
        | none => exact un.keep b o e q (fun z => absurd (show b ∈ ([] : List Addr) from z) (by simp)) (by simp)
        | some u =>
          rcases hO b with z | ⟨ob, xs, z⟩
          · rw [q] at z
            cases z
          · have e1 := (hok b _ z).1
            have e2 := (hok' b _ (un.frzs b ob _ z)).1
            rw [e] at e1
            cases e1
            exact e2
  cases hk : K.lookup a with
  | some o =>
    have e := KX a o hk
    rw [ha] at e
    cases e
    refine main (fun _ => none) (fun _ => Or.inl rfl) (Or.inr ⟨_, vs.toArray, _, hk, rfl, rfl, rfl, ?_, by simpa using rels⟩) (fun b u z => nomatch z)
      (fun b z => absurd rfl z) fun z => absurd rfl z
    rw [List.size_toArray, lenV]
    exact hl
  | none =>
    refine main (fun b => if b = a then some (.frz { cls := .type "list", data := .seq vs.toArray } (.lst (ns.map V.int))) else none) (fun b => ?_)
      (Or.inl (Or.inr ⟨{ cls := .type "list", data := .seq vs.toArray }, if_pos rfl⟩)) (fun b u z => ?_) (fun b z => ?_) fun _ => hk
    · by_cases h : b = a
      · exact Or.inr ⟨_, _, if_pos h⟩
      · exact Or.inl (if_neg h)
    · by_cases h : b = a
      · have z2 := (if_pos h).symm.trans z
        cases z2
        rw [h]
        exact ⟨ha, by rw [List.length_map]; exact hl, vs, _, rels, ha⟩
      · exact nomatch (if_neg h).symm.trans z
    · by_cases h : b = a
      · exact h
      · exact absurd (if_neg h) z
theorem walkG {l : PySem.W.OpenLaw} {n k : Nat} {q : Program} {loose : List Str} {XP : (Str → Option Value) → Heap → Prop} {YP : World → Heap → Prop} {d : DefRec}
    {K : Params → PySem.W.Frag} {CX : World → CXT} {sp : PySem.W.Frag → Sp} {x : Str}
    (hn : l.most = some n) (hn2 : n ≤ sizeLine) (hdf : d.params.defaults = []) (hr : Room k callerA) (hY : ∀ (w : World) (h : Heap), YP w h → (K w.params).In h)
    (F : ∀ (w : World) (mg : Str → Option Value) (fa : Addr) (h : Heap), (K w.params).In h → h.Ns mainGlobals mg → mg d.name = some (.ref fa) →
      ∃ fd : FuncData, (∀ (s : Shared) (u : Value), BindsTo s fd ⟨[u], []⟩ [(x, u)]) ∧
        ∀ base : Heap, (K w.params).In base → base.Ns mainGlobals mg → FnG l.prog w (K w.params) mg base (CX w) k fa fd [x] (sp (K w.params)))
    (hsp : ∀ (K : PySem.W.Frag) (H : Hp) (a : Addr) (ns : List Int), ns.length ≤ n → Only H → SqL K H a (ns.map V.int) → sp K [.ref a] H (fun v _ => v = .bl true) fun _ _ _ => False)
    (hCX : ∀ (w : World) (H : Hp) (s : Shared) (e : Value) (s' : Shared), CX w [] H s (fun _ _ _ => False) e s' → False) :
    PySem.W.WalkO q loose XP YP l.row.toRowW d [] (fun f vs => PySem.call f vs) := by
  refine Att.attach_call hn hdf fun w s₀ s₁ mg mb fa o pm cd doc a vs ns G Y ho hd hcd hmg hobj hints hlen hg => ?_
  have KX := hY w _ Y
  obtain ⟨fd, hb, hF⟩ := F w mg fa _ KX G.T.g hmg
  exact lawG KX G.T.g G.T.b G.T.builtins G.T.nolimit hg hobj hints (Nat.le_trans hlen hn2) hr hF hb (fun H hO hS => hsp _ H a ns hlen hO hS) fun H e s' => hCX w H s₁ e s'
/-! ### repr of data -/
def rRepr (K : PySem.W.Frag) : List V → Hp → VK → Prop := fun xs H Q =>
  ∃ (a : Addr) (d : PyData), xs = [.ref a] ∧ Dp K H (.ref a) d ∧ d.showable = true ∧ d.hasDict = false ∧ d.depth ≤ 60 ∧ d.shown.length ≤ sizeLine ∧ Q (.str d.shown) H
theorem call_repr {X : Cx} {k : Nat} (hq : Quiet X.A) (hr : Room k X.A) : CallR X (.builtin "repr") (rRepr X.K) := by
  intro pins s σ H xs us Q I r h
  obtain ⟨a, d, rfl, hd, hs, hn, hp, hz, q⟩ := h
  cases r with
  | cons rv rn =>
    cases rn
    cases rv
    obtain ⟨as, rd⟩ := Dp.reads I d (.ref a) (.ref a) hd rfl
    have hu := hr.un
    refine repr_of_reads' rd hs (fun z => by rw [hn] at z; cases z) hq (by omega) (fun _ _ e => e) (fun h' u tk kp => ?_) hz
    exact ⟨.str d.shown, H, I.kept kp, ⟨u, rfl⟩, q⟩
end Tq

/-! ### the stream of draws -/
namespace Tq
open PySem L2
/-- a def of the text, by its name -/
structure Fn1 (K : PySem.W.Frag) (mg : Str → Option Value) (x : Str) (st : Stmt) : Prop where
  ex : ∃ (f : Addr) (fd : FuncData), mg x = some (.ref f) ∧ Fun K x x st f fd
theorem fn1 {K : PySem.W.Frag} {h : Heap} {mg : Str → Option Value} {x : Str} {st : Stmt} {f : Addr} {oc : Value} {od an : Option Addr} {osl : Array (Option Value)}
    {kV doc pm cdv ct : Value} (X : K.In h) (G : h.Ns mainGlobals mg) (a : PySem.W.nsIn K mainGlobals x = some (some (.ref f)))
    (l : K.lookup f = some ⟨oc, od, .func (PySem.W.fnOf x x (defArgs st) (defBody st) (defScope st) .none kV doc pm an cdv ct), osl⟩)
    (c : PySem.W.codeIn K cdv x = true) (k : PySem.W.keepIn K (.ref f) = true) : Fn1 K mg x st := ⟨f, _, PySem.W.mg_of X G a, fun_mk l c k⟩
theorem df_of {P : Program} {w : World} {K : PySem.W.Frag} {mg : Str → Option Value} {base : Heap} {CX : CXT} {k : Nat} {x : Str} {st : Stmt} {sp : Sp} {ps : List Str}
    (F : Fn1 K mg x st) (hb : ∀ (kV doc pm : Value) (an : Option Addr) (cdv ct : Value) (us : List Value), us.length = ps.length →
      bindArgs (PySem.W.fnOf x x (defArgs st) (defBody st) (defScope st) .none kV doc pm an cdv ct) ⟨us, []⟩ = pure (ps.zip us))
    (ok : ∀ (f : Addr) (fd : FuncData), Fun K x x st f fd → FnG P w K mg base CX k f fd ps sp) : Df P w K mg base CX k x sp := by
  obtain ⟨f, fd, hm, F⟩ := F.ex
  exact ⟨f, fd, ps, hm, F.kp, F.binds hb, ok f fd F⟩

/-- a heap without two of its places -/
def off (a l : Addr) (H : Hp) : Hp := fun b => if b = a ∨ b = l then none else H b
theorem off_sub {a l : Addr} {H : Hp} : Same (off a l H) H := fun b o e => by
  unfold off at e
  split at e
  · cases e
  · exact e
theorem off_of {a l b : Addr} {H : Hp} {o : HO} (h : H b = some o) (h1 : b ≠ a) (h2 : b ≠ l) : off a l H b = some o := by
  unfold off
  rw [if_neg (fun z => z.elim h1 h2)]
  exact h
theorem off_ne {a l b : Addr} {H : Hp} {o : HO} (h : off a l H b = some o) : b ≠ a ∧ b ≠ l ∧ H b = some o := by
  unfold off at h
  split at h
  · cases h
  · rename_i n
    exact ⟨fun e => n (Or.inl e), fun e => n (Or.inr e), h⟩
/-- what stood beside the stream stands -/
def Nx (a l : Addr) (H H' : Hp) : Prop := Same (off a l H) (off a l H')
theorem Nx.refl {a l : Addr} {H : Hp} : Nx a l H H := Same.refl _
theorem Nx.trans {a l : Addr} {H H1 H2 : Hp} (x : Nx a l H H1) (y : Nx a l H1 H2) : Nx a l H H2 := Same.trans x y
theorem Nx.get {a l b : Addr} {H H' : Hp} {o : HO} (x : Nx a l H H') (h : H b = some o) (h1 : b ≠ a) (h2 : b ≠ l) : H' b = some o := off_sub b o (x b o (off_of h h1 h2))
theorem Nx.of_same {a l : Addr} {H H' : Hp} (x : Same H H') : Nx a l H H' := fun b o e => by
  obtain ⟨h1, h2, h3⟩ := off_ne e
  exact off_of (x b o h3) h1 h2
theorem Nx.upd_a {a l : Addr} {H : Hp} {o : HO} : Nx a l H (upd H a o) := fun b u e => by
  obtain ⟨h1, h2, h3⟩ := off_ne e
  exact off_of (by rw [upd_ne h1]; exact h3) h1 h2
theorem Nx.upd_l {a l : Addr} {H : Hp} {o : HO} : Nx a l H (upd H l o) := fun b u e => by
  obtain ⟨h1, h2, h3⟩ := off_ne e
  exact off_of (by rw [upd_ne h2]; exact h3) h1 h2
theorem Nx.new {a l p : Addr} {H : Hp} {o : HO} (hp : H p = none) : Nx a l H (upd H p o) := Nx.of_same fun b u e => by
  rw [upd_ne (ne_of_none e hp)]
  exact e
/-- the stream at a, its cells at l, with at most c draws made -/
structure Strm (H : Hp) (a l : Addr) (c : Nat) : Prop where
  ex : ∃ (ns : List Int) (x k m : Int), H a = some (.lst [.ref l, .int x, .int k, .int m]) ∧ H l = some (.lst (ns.map V.int)) ∧ 0 ≤ x ∧ 0 ≤ k ∧ k ≤ c ∧ 0 ≤ m ∧ m < 2147483647
theorem Strm.mono {H : Hp} {a l : Addr} {c d : Nat} (s : Strm H a l c) (h : c ≤ d) : Strm H a l d := by
  obtain ⟨ns, x, k, m, h1, h2, h3, h4, h5, h6⟩ := s.ex
  exact ⟨ns, x, k, m, h1, h2, h3, h4, by omega, h6⟩
theorem strm_ne {H : Hp} {a l : Addr} {ns : List Int} {x k m : Int} (h1 : H a = some (.lst [.ref l, .int x, .int k, .int m])) (h2 : H l = some (.lst (ns.map V.int))) : a ≠ l := by
  rintro rfl
  rw [h1] at h2
  cases ns with
  | nil => cases h2
  | cons n r => cases h2
theorem Strm.dom {H : Hp} {a l : Addr} {c : Nat} (s : Strm H a l c) : H a ≠ none ∧ H l ≠ none := by
  obtain ⟨ns, x, k, m, h1, h2, _⟩ := s.ex
  rw [h1, h2]
  exact ⟨nofun, nofun⟩
theorem Strm.keep {H H' : Hp} {a l : Addr} {c : Nat} (s : Strm H a l c) (h1 : H' a = H a) (h2 : H' l = H l) : Strm H' a l c := by
  obtain ⟨ns, x, k, m, e1, e2, r⟩ := s.ex
  exact ⟨ns, x, k, m, h1.trans e1, h2.trans e2, r⟩
theorem Strm.new {H : Hp} {a l p : Addr} {c : Nat} {o : HO} (s : Strm H a l c) (hp : H p = none) : Strm (upd H p o) a l c :=
  s.keep (upd_ne fun e => s.dom.1 (e ▸ hp)) (upd_ne fun e => s.dom.2 (e ▸ hp))
/-- what is new behind was new ahead -/
theorem Nx.free {a l p : Addr} {H H' : Hp} {c : Nat} (x : Nx a l H H') (s : Strm H' a l c) (hp : H' p = none) : H p = none := by
  cases q : H p with
  | none => rfl
  | some o =>
    have h1 : p ≠ a := fun e => s.dom.1 (e ▸ hp)
    have h2 : p ≠ l := fun e => s.dom.2 (e ▸ hp)
    rw [x.get q h1 h2] at hp
    cases hp
theorem eqv_nil (ns : List Int) : PyData.eqv (.list (ns.map PyData.int)) (.list []) = ns.isEmpty := by
  cases ns with
  | nil => rfl
  | cons n r => simp [PyData.eqv, PyData.eqvAll]
theorem dpAll_ints {K : PySem.W.Frag} {H : Hp} : ∀ ns : List Int, DpAll K H (ns.map V.int) (ns.map PyData.int)
  | [] => .nil
  | n :: r => .cons (.int n) (dpAll_ints r)
theorem canLay_ints : ∀ ns : List Int, PyData.canLayAll0 (ns.map PyData.int) = true
  | [] => rfl
  | n :: r => by
    rw [List.map_cons, PyData.canLayAll0, canLay_ints r]
    rfl
theorem depth_ints : ∀ ns : List Int, PyData.depthAll (ns.map PyData.int) ≤ 1
  | [] => by simp [PyData.depthAll]
  | n :: r => by
    rw [List.map_cons, PyData.depthAll]
    have := depth_ints r
    simp [PyData.depth]
    omega
theorem shaped_ints (ns : List Int) : SeqAt.shaped (.list (ns.map PyData.int)) = true := by
  unfold SeqAt.shaped
  rw [Bool.and_eq_true]
  refine ⟨by rw [PyData.canLay0]; exact canLay_ints ns, ?_⟩
  have := depth_ints ns
  rw [PyData.depth]
  exact decide_eq_true (by omega)
/-! within a comprehension's block the written part is named -/
theorem castIx {X : Cx} {K : PySem.W.Frag} {r : PySem.W.Frag → R2} (i : IxR X (r X.K)) (h : X.K = K := by rfl) : IxR X (r K) := h ▸ i
theorem castOp {X : Cx} {K : PySem.W.Frag} {f : Value → Value → Sem Value} {r : PySem.W.Frag → R2} (i : OpR X f (r X.K)) (h : X.K = K := by rfl) : OpR X f (r K) := h ▸ i
theorem castCall {X : Cx} {K : PySem.W.Frag} {f : Value} {r : PySem.W.Frag → List V → Hp → VK → Prop} (i : CallR X f (r X.K)) (h : X.K = K := by rfl) : CallR X f (r K) := h ▸ i
theorem castPE {X : Cx} {K : PySem.W.Frag} {e : PySem.Expr} {r : PySem.W.Frag → TE} (i : PE X e (r X.K)) (h : X.K = K := by rfl) : PE X e (r K) := h ▸ i
theorem if1 {b : Bool} {A B : Prop} (hb : b = true) (h : A) : if b = true then A else B := by rw [if_pos hb]; exact h
theorem if0 {b : Bool} {A B : Prop} (hb : b = false) (h : B) : if b = true then A else B := by rw [hb, if_neg Bool.false_ne_true]; exact h
theorem ix0 (y : Int) (r : List Int) : seqIndex? 0 ((y :: r).map V.int).length = some 0 := by
  simp [seqIndex?]
theorem while_split {c : TT} {tb u : TS} {D : Ends} {σ : St} {H : Hp} (J : St → Hp → Prop) (hJ : ∀ σ H, J σ H → u D σ H)
    (h : (∀ σ H, J σ H → u D σ H) → tWhile c tb { D with nx := u D } σ H) : tSeq (tWhile c tb) u D σ H := h hJ
/-- draw(stream, n): some number from 0 to n - 1 -/
def spDraw : Sp := fun vs H Q _ => ∃ (a l : Addr) (n : Int) (c : Nat), vs = [.ref a, .int n] ∧ 0 < n ∧ n < 1000000000 ∧ c < 4000000 ∧ Strm H a l c ∧
  ∀ (r : Int) (H' : Hp), 0 ≤ r → r < n → Strm H' a l (c + 1) → Nx a l H H' → Q (.int r) H'
end Tq

/-! ### own errors held as values: made by place or by name, their fields, isinstance -/
namespace Tq
open PySem L2 PySem.Spec PyProof.Rows PySem.HandSPX
/-! the making, with keywords -/
section
variable {prog : Program} {w : World} {A : Around} {E : Value → Shared → Prop} {R : Result → Shared → Prop} {h : Heap} {g : Array GenState} {d : Drawn} {t : Nat} {os : OsState}
variable {nm q : Str} {C N : Addr} {bs bm bmB : List Value} {hdct : Bool} {sn : List Str} {sub : List Value} {ab : Bool} {col : Option Bool} {dd : Option Addr}
  {k0 k1 k2 k3 k5 : Option Value} {B newId initId : String} {kw : List (Str × Value)}
theorem check_newK {M : Model} (F : ExcBaseFacts B newId initId bmB) (hT : ∀ X : String, bm.contains (.type X) = bmB.contains (.type X)) {rest : List Value} {Q : Unit → Shared → Prop}
    (hC : h.get? C = some (excClassObj nm q C N bs bm hdct sn sub ab col dd k0 k1 k2 k3 k5 newId)) (hq : Q () ⟨h, g, d, t, os⟩) :
    wpAny M A (checkBuiltinCall newId ⟨.ref C :: rest, kw⟩) Q E ⟨h, g, d, t, os⟩ := by
  have inB : (Value.ref C :: bm).contains (.type B) = true := by rw [List.contains_cons, hT, F.hasB, Bool.or_true]
  have star := F.noStar
  simp only [checkBuiltinCall, F.newKind, F.newSplit, F.newRow]
  repeat (first
    | refine wpAny_loadPart_at hC ?_
    | (refine wpAny_isSubtype_exc hC ?_; rw [inB])
    | refine wpAny_staticBase_exc hC ?_
    | refine wpAny_madeBy_exc hC ?_
    | simp only [bne_self_eq_false, Bool.false_eq_true, if_false]
    | wp_step)
  exact hq
theorem newK (F : ExcBaseFacts B newId initId bmB) (hT : ∀ X : String, bm.contains (.type X) = bmB.contains (.type X)) {rest : List Value}
    (hC : h.get? C = some (excClassObj nm q C N bs bm hdct sn sub ab col dd k0 k1 k2 k3 k5 newId))
    (hq : R (.ok (.ret (.ref (h.objs.size + 1)))) ⟨(h.push { cls := .type "tuple", data := .seq rest.toArray }).push
      { cls := .ref C, data := .fields #[.ref h.objs.size, .none, .none, .none, .bool false, .none] }, g, d, t, os⟩) (hrest : rest.length ≤ sizeLine) :
    codeAny (model prog w) A (.builtin newId ⟨.ref C :: rest, kw⟩) R ⟨h, g, d, t, os⟩ := by
  have ends := F.ends
  have inB : (Value.ref C :: bm).contains (.type B) = true := by rw [List.contains_cons, hT, F.hasB, Bool.or_true]
  have noA : (Value.ref C :: bm).contains (.type "AttributeError") = false := by rw [List.contains_cons, hT, F.noAttr]; rfl
  have noN : (Value.ref C :: bm).contains (.type "NameError") = false := by rw [List.contains_cons, hT, F.noName]; rfl
  refine codeAny_builtinAt F.entry ?_
  unfold Builtin.«BaseException.__new__»
  refine PySem.wpAt_bind ?_
  show PySem.wpAt _ _ _ (stack >>= _) _ _ _
  refine PySem.wpAt_bind (PySem.wpAt_stack fun p below => PySem.wpAt_of_wpAny ?_)
  wp_walk
  refine PySem.wpAt_of_wpAny ?_
  rw [F.owner]
  repeat (first
    | with_reducible refine wpAny_madeHere_exc F.canon hC ?_
    | with_reducible refine wpAny_loadPart_at hC ?_
    | (with_reducible refine wpAny_isSubtype_exc hC ?_; first | rw [inB] | rw [noA] | rw [noN])
    | wp_step)
  show R _ _
  rw [Heap.size_push]
  exact hq
theorem typeCallK (F : ExcBaseFacts B newId initId bmB) (hT : ∀ X : String, bm.contains (.type X) = bmB.contains (.type X)) {rest : List Value} {fI : Addr} {Q : Fin → Shared → Prop}
    (hC : h.get? C = some (excClassObj nm q C N bs bm hdct sn sub ab col dd k0 k1 k2 k3 k5 newId))
    (hi : W.Looks (model prog w) h (typeLookup (.ref C) "__init__") (some (.ref fI))) (hb : ∀ self, W.Looks (model prog w) h (bindSpecial (.ref fI) self) (.ref fI, [self]))
    (hrest : rest.length ≤ sizeLine)
    (hq : codeAny (model prog w) A (.call (.ref fI) ⟨.ref (h.objs.size + 1) :: rest, kw⟩)
      (fun r s' => match r with | .ok (.ret v) => v = .none ∧ Q (.done (.ret (.ref (h.objs.size + 1)))) s' | .ok _ => False | .error e => E e s')
      ⟨(h.push (W.kdv_tup rest)).push (excO C h.objs.size), g, d, t, os⟩) :
    wpAny (model prog w) A (Builtin.«type.__call__» ⟨.ref C :: rest, kw⟩) Q E ⟨h, g, d, t, os⟩ := by
  repeat (first
    | with_reducible refine wpAny_loadPart_at hC ?_
    | with_reducible refine wpAny_madeBy_exc hC ?_
    | wp_step)
  refine codeAny_call_builtin_code (Code.quiet_builtin _ F.quiet) (check_newK F hT hC ?_)
  refine newK F hT hC ?_ hrest
  show wpAny _ _ _ _ _ _
  have k : ∀ b o, h.get? b = some o → ((h.push (W.kdv_tup rest)).push (excO C h.objs.size)).get? b = some o := fun b o e => Heap.get?_push_of_some _ (Heap.get?_push_of_some _ e)
  have hC1 := k _ _ hC
  have hget : ((h.push (W.kdv_tup rest)).push (excO C h.objs.size)).get? (h.objs.size + 1) = some (excO C h.objs.size) := by heap_get
  have inC : (Value.ref C :: bm).contains (.ref C) = true := by simp
  have i1 := hi.keeps k
  have b1 := (hb (.ref (h.objs.size + 1))).keeps k
  unfold isInstance
  repeat (first
    | with_reducible refine wpAny_loadPart_at hget ?_
    | (with_reducible refine wpAny_isSubtype_exc hC1 ?_; rw [inC])
    | wp_step)
  show wpAny _ _ (typeLookup (.ref C) _) _ _ _
  refine i1.at ?_
  refine wpAny_holding (wpAny_bind (b1.at ?_))
  refine wpAny_bind (wpAny_call (codeAny_mono hq fun r s' z => ?_))
  rcases r with e | (v | _ | _ | _) <;> first | exact z | exact z.elim | skip
  obtain ⟨rfl, z⟩ := z
  first
    | exact wpAny_pure (wpAny_pure z)
    | (wp_walk; exact z)
theorem callK (F : ExcBaseFacts B newId initId bmB) (hT : ∀ X : String, bm.contains (.type X) = bmB.contains (.type X)) {rest : List Value} {fI : Addr}
    (hC : h.get? C = some (excClassObj nm q C N bs bm hdct sn sub ab col dd k0 k1 k2 k3 k5 newId))
    (hi : W.Looks (model prog w) h (typeLookup (.ref C) "__init__") (some (.ref fI))) (hb : ∀ self, W.Looks (model prog w) h (bindSpecial (.ref fI) self) (.ref fI, [self]))
    (hrest : rest.length ≤ sizeLine)
    (hq : codeAny (model prog w) (A.under (.builtin "type.__call__" ⟨.ref C :: rest, kw⟩)) (.call (.ref fI) ⟨.ref (h.objs.size + 1) :: rest, kw⟩) (W.InitBack (h.objs.size + 1) R)
      ⟨(h.push (W.kdv_tup rest)).push (excO C h.objs.size), g, d, t, os⟩) :
    codeAny (model prog w) A (.call (.ref C) ⟨rest, kw⟩) R ⟨h, g, d, t, os⟩ := by
  have f1 := tc_lookup
  have f2 := tc_bind (.ref C)
  have hTy : (⟨h, g, d, t, os⟩ : Shared).TypeIs (.ref C) "type" := ⟨_, hC, rfl⟩
  refine codeAny_of_tree ?_
  show wpAny _ _ (callAny (.ref C) _) _ _ _
  repeat (any_goals (first
    | assumption
    | with_reducible refine wpAny_loadPart_at hC ?_
    | wp_step))
  refine ⟨rfl, ?_⟩
  refine codeAny_call_builtin_at (Code.quiet_builtin _ (by decide +kernel)) entry_typeCall (wpAny_check_type_call_sub hC (typeCallK F hT hC hi hb hrest ?_))
  refine codeAny_mono hq fun r s' z => ?_
  rcases r with e | (v | _ | _ | _) <;> exact z
end
end Tq

/-! ### data: what is read of a value, how long its text is -/
namespace Tq
open PySem L2
theorem sqL_same {K : PySem.W.Frag} {H H' : Hp} {a : Addr} {xs : List V} (e : Same H H') (h : SqL K H a xs) : SqL K H' a xs := e.seq h
theorem sqT_same {K : PySem.W.Frag} {H H' : Hp} {a : Addr} {xs : List V} (e : Same H H') (h : SqT K H a xs) : SqT K H' a xs := by
  rcases h with (h | ⟨o, h⟩) | h
  · exact .inl (.inl (e _ _ h))
  · exact .inl (.inr ⟨o, e _ _ h⟩)
  · exact .inr h
section
variable {K : PySem.W.Frag} {H H' : Hp}
mutual
theorem dp_same (e : Same H H') : ∀ (d : PyData) (v : V), Dp K H v d → Dp K H' v d
  | .none, _, h => by cases h; exact .non
  | .bool b, _, h => by cases h; exact .bl b
  | .int i, _, h => by cases h; exact .int i
  | .str x, _, h => by cases h; exact .str x
  | .list ds, _, h => by
    cases h with
    | lst hs ha => exact .lst (sqL_same e hs) (dpAll_same e ds _ ha)
  | .tuple ds, _, h => by
    cases h with
    | tup hs ha => exact .tup (sqT_same e hs) (dpAll_same e ds _ ha)
  | .dict _, _, h => by cases h
theorem dpAll_same (e : Same H H') : ∀ (ds : List PyData) (vs : List V), DpAll K H vs ds → DpAll K H' vs ds
  | [], _, h => by cases h; exact .nil
  | d :: ds, _, h => by
    cases h with
    | cons h1 h2 => exact .cons (dp_same e d _ h1) (dpAll_same e ds _ h2)
end
end
/-! a bound of the text -/
mutual
def tx : PyData → Nat
  | .list xs => 2 + txAll xs
  | .tuple xs => 3 + txAll xs
  | .none => 4
  | .bool _ => 5
  | .int i => (toString i : Str).length
  | .str x => (reprText x).length
  | .dict _ => 0
def txAll : List PyData → Nat
  | [] => 0
  | x :: xs => tx x + 2 + txAll xs
end
theorem listText_len (ts : List Str) : (listText ts).length ≤ 2 + piled ts := by
  cases ts with
  | nil => decide +kernel
  | cons t r =>
    have h := textFrom_length_pos r 1 (("[" : Str) ++ (if (0 : Nat) > 0 then ", " else "" : String) ++ t) (Nat.succ_pos 0)
    have e : ((("[" : Str) ++ (if (0 : Nat) > 0 then ", " else "" : String) ++ t)).length = 1 + t.length := by
      rw [strLen_append, strLen_append]; rfl
    have hY : (textFrom 0 "[" (t :: r)).length = (textFrom 1 (("[" : Str) ++ (if (0 : Nat) > 0 then ", " else "" : String) ++ t) r).length := rfl
    show (textFrom 0 "[" (t :: r) ++ "]").length ≤ _
    rw [strLen_append, hY, h, e, piled_cons]
    show 1 + t.length + piled r + 1 ≤ _
    omega
theorem tupleText_len (ts : List Str) : (tupleText ts).length ≤ 3 + piled ts := by
  have e3 : (((if ts.length == 1 then ",)" else ")" : String) : Str)).length ≤ 2 := by split <;> decide +kernel
  have e1 : ((("(" : String) : Str)).length = 1 := rfl
  unfold tupleText
  rw [strLen_append, strLen_append, e1]
  by_cases h : ts = []
  · subst h
    decide +kernel
  · have := join_length_add ts h
    omega
mutual
theorem shown_le : ∀ d : PyData, d.hasDict = false → d.shown.length ≤ tx d
  | .none, _ => by decide +kernel
  | .bool b, _ => by cases b <;> decide +kernel
  | .int i, _ => by rw [PyData.shown, tx]; exact Nat.le_refl _
  | .str x, _ => by rw [PyData.shown, tx]; exact Nat.le_refl _
  | .list xs, h => by
    rw [PyData.shown, tx]
    have := listText_len (PyData.shownAll xs)
    have := shownAll_le xs (by simpa [PyData.hasDict] using h)
    omega
  | .tuple xs, h => by
    rw [PyData.shown, tx]
    have := tupleText_len (PyData.shownAll xs)
    have := shownAll_le xs (by simpa [PyData.hasDict] using h)
    omega
  | .dict _, h => by simp [PyData.hasDict] at h
theorem shownAll_le : ∀ xs : List PyData, PyData.hasDictAll xs = false → piled (PyData.shownAll xs) ≤ txAll xs
  | [], _ => by rw [PyData.shownAll, txAll, piled_nil]; exact Nat.le_refl 0
  | x :: xs, h => by
    rw [PyData.hasDictAll, Bool.or_eq_false_iff] at h
    rw [PyData.shownAll, txAll, piled_cons]
    have := shown_le x h.1
    have := shownAll_le xs h.2
    omega
end
/-- plain data: no dict in it, its ints of a known size -/
structure Plain (d : PyData) (n m : Nat) : Prop where
  sh : d.showable = true
  nd : d.hasDict = false
  dp : d.depth ≤ n
  tx : tx d ≤ m
structure PlainAll (ds : List PyData) (n m : Nat) : Prop where
  sh : PyData.showableAll ds = true
  nd : PyData.hasDictAll ds = false
  dp : PyData.depthAll ds ≤ n
  tx : txAll ds ≤ m
theorem Plain.mono {d : PyData} {n m n' m' : Nat} (h : Plain d n m) (a : n ≤ n') (b : m ≤ m') : Plain d n' m' := ⟨h.sh, h.nd, Nat.le_trans h.dp a, Nat.le_trans h.tx b⟩
theorem PlainAll.mono {d : List PyData} {n m n' m' : Nat} (h : PlainAll d n m) (a : n ≤ n') (b : m ≤ m') : PlainAll d n' m' := ⟨h.sh, h.nd, Nat.le_trans h.dp a, Nat.le_trans h.tx b⟩
theorem PlainAll.nil {n m : Nat} : PlainAll [] n m := ⟨rfl, rfl, by simp [PyData.depthAll], by simp [txAll]⟩
theorem PlainAll.cons {d : PyData} {ds : List PyData} {n m k : Nat} (h : Plain d n m) (hs : PlainAll ds n k) : PlainAll (d :: ds) n (m + 2 + k) := by
  refine ⟨?_, ?_, ?_, ?_⟩
  · rw [PyData.showableAll, h.sh, hs.sh]; rfl
  · rw [PyData.hasDictAll, h.nd, hs.nd]; rfl
  · rw [PyData.depthAll]
    have := h.dp
    have := hs.dp
    omega
  · rw [txAll]
    have := h.tx
    have := hs.tx
    omega
theorem PlainAll.head {d : PyData} {ds : List PyData} {n m : Nat} (h : PlainAll (d :: ds) n m) : Plain d n m ∧ PlainAll ds n m := by
  obtain ⟨h1, h2, h3, h4⟩ := h
  rw [PyData.showableAll, Bool.and_eq_true] at h1
  rw [PyData.hasDictAll, Bool.or_eq_false_iff] at h2
  rw [PyData.depthAll] at h3
  rw [txAll] at h4
  exact ⟨⟨h1.1, h2.1, by omega, by omega⟩, ⟨h1.2, h2.2, by omega, by omega⟩⟩
theorem plain_list {ds : List PyData} {n m : Nat} (h : PlainAll ds n m) : Plain (.list ds) (n + 1) (m + 2) := by
  obtain ⟨h1, h2, h3, h4⟩ := h
  refine ⟨by rw [PyData.showable]; exact h1, by rw [PyData.hasDict]; exact h2, by rw [PyData.depth]; omega, by rw [Tq.tx]; omega⟩
theorem plain_tuple {ds : List PyData} {n m : Nat} (h : PlainAll ds n m) : Plain (.tuple ds) (n + 1) (m + 3) := by
  obtain ⟨h1, h2, h3, h4⟩ := h
  refine ⟨by rw [PyData.showable]; exact h1, by rw [PyData.hasDict]; exact h2, by rw [PyData.depth]; omega, by rw [Tq.tx]; omega⟩
/-- a value that may be told by repr -/
def Rep (K : PySem.W.Frag) (H : Hp) (v : V) (n m : Nat) : Prop := ∃ d, Dp K H v d ∧ Plain d n m
theorem Rep.mono {K : PySem.W.Frag} {H : Hp} {v : V} {n m n' m' : Nat} (h : Rep K H v n m) (a : n ≤ n') (b : m ≤ m') : Rep K H v n' m' := let ⟨d, h1, h2⟩ := h; ⟨d, h1, h2.mono a b⟩
theorem Rep.same {K : PySem.W.Frag} {H H' : Hp} {v : V} {n m : Nat} (h : Rep K H v n m) (e : Same H H') : Rep K H' v n m := let ⟨d, h1, h2⟩ := h; ⟨d, dp_same e d v h1, h2⟩
def RepAll (K : PySem.W.Frag) (H : Hp) (vs : List V) (n m : Nat) : Prop := ∃ ds, DpAll K H vs ds ∧ PlainAll ds n m
theorem RepAll.nil {K : PySem.W.Frag} {H : Hp} {n m : Nat} : RepAll K H [] n m := ⟨[], .nil, PlainAll.nil⟩
theorem RepAll.cons {K : PySem.W.Frag} {H : Hp} {v : V} {vs : List V} {n m k : Nat} (h : Rep K H v n m) (hs : RepAll K H vs n k) : RepAll K H (v :: vs) n (m + 2 + k) := by
  obtain ⟨d, h1, h2⟩ := h
  obtain ⟨ds, g1, g2⟩ := hs
  exact ⟨d :: ds, .cons h1 g1, .cons h2 g2⟩
theorem RepAll.same {K : PySem.W.Frag} {H H' : Hp} {vs : List V} {n m : Nat} (h : RepAll K H vs n m) (e : Same H H') : RepAll K H' vs n m := let ⟨d, h1, h2⟩ := h; ⟨d, dpAll_same e d vs h1, h2⟩
theorem RepAll.mono {K : PySem.W.Frag} {H : Hp} {vs : List V} {n m n' m' : Nat} (h : RepAll K H vs n m) (a : n ≤ n') (b : m ≤ m') : RepAll K H vs n' m' := let ⟨d, h1, h2⟩ := h; ⟨d, h1, h2.mono a b⟩
theorem dpAll_snoc {K : PySem.W.Frag} {H : Hp} : ∀ {vs : List V} {ds : List PyData} {v : V} {d : PyData}, DpAll K H vs ds → Dp K H v d → DpAll K H (vs ++ [v]) (ds ++ [d])
  | [], _, _, _, h, g => by cases h; exact .cons g .nil
  | _ :: _, _, _, _, h, g => by
    cases h with
    | cons h1 h2 => exact .cons h1 (dpAll_snoc h2 g)
theorem plain_snoc {d : PyData} {n m : Nat} (h : Plain d n m) : ∀ {ds : List PyData} {k : Nat}, PlainAll ds n k → PlainAll (ds ++ [d]) n (k + (m + 2))
  | [], k, g => (PlainAll.cons h PlainAll.nil (k := 0)).mono (Nat.le_refl _) (by omega)
  | e :: ds, k, g => by
    obtain ⟨g1, g2, g3, g4⟩ := g
    rw [PyData.showableAll, Bool.and_eq_true] at g1
    rw [PyData.hasDictAll, Bool.or_eq_false_iff] at g2
    rw [PyData.depthAll] at g3
    rw [txAll] at g4
    have ih := plain_snoc h (ds := ds) (k := txAll ds) ⟨g1.2, g2.2, by omega, Nat.le_refl _⟩
    exact (PlainAll.cons (d := e) (m := tx e) ⟨g1.1, g2.1, by omega, Nat.le_refl _⟩ ih).mono (Nat.le_refl _) (by omega)
theorem RepAll.snoc {K : PySem.W.Frag} {H : Hp} {v : V} {vs : List V} {n m k : Nat} (hs : RepAll K H vs n k) (h : Rep K H v n m) : RepAll K H (vs ++ [v]) n (k + (m + 2)) := by
  obtain ⟨d, h1, h2⟩ := h
  obtain ⟨ds, g1, g2⟩ := hs
  exact ⟨ds ++ [d], dpAll_snoc g1 h1, plain_snoc h2 g2⟩
theorem rep_list {K : PySem.W.Frag} {H : Hp} {a : Addr} {vs : List V} {n m : Nat} (h : SqL K H a vs) (hs : RepAll K H vs n m) : Rep K H (.ref a) (n + 1) (m + 2) := let ⟨ds, g1, g2⟩ := hs; ⟨.list ds, .lst h g1, plain_list g2⟩
theorem rep_tuple {K : PySem.W.Frag} {H : Hp} {a : Addr} {vs : List V} {n m : Nat} (h : SqT K H a vs) (hs : RepAll K H vs n m) : Rep K H (.ref a) (n + 1) (m + 3) := let ⟨ds, g1, g2⟩ := hs; ⟨.tuple ds, .tup h g1, plain_tuple g2⟩
theorem rep_non {K : PySem.W.Frag} {H : Hp} {n m : Nat} (h : 4 ≤ m) : Rep K H .non n m := ⟨.none, .non, rfl, rfl, Nat.zero_le _, h⟩
theorem rep_bl {K : PySem.W.Frag} {H : Hp} {b : Bool} {n m : Nat} (h : 5 ≤ m) : Rep K H (.bl b) n m := ⟨.bool b, .bl b, rfl, rfl, Nat.zero_le _, h⟩
theorem rep_int {K : PySem.W.Frag} {H : Hp} {i : Int} {n m : Nat} (h1 : i.natAbs.log2 < 1920) (h : (toString i : Str).length ≤ m) : Rep K H (.int i) n m :=
  ⟨.int i, .int i, by rw [PyData.showable]; exact decide_eq_true h1, rfl, Nat.zero_le _, h⟩
theorem rep_str {K : PySem.W.Frag} {H : Hp} {x : Str} {n m : Nat} (h : (reprText x).length ≤ m) : Rep K H (.str x) n m := ⟨.str x, .str x, rfl, rfl, Nat.zero_le _, h⟩
/-! one list gets another item -/
mutual
theorem dp_app {K : PySem.W.Frag} {H : Hp} {b : Addr} {xs : List V} {y : V} {e : PyData} (hb : H b = some (.lst xs)) (he : ∀ H' : Hp, Dp K H' y e) (e1 : Plain e 0 2) :
    ∀ (d : PyData) (v : V) (n : Nat), Dp K H v d → Plain d n (tx d) → ∃ d', Dp K (upd H b (.lst (xs ++ [y]))) v d' ∧ Plain d' n (4 * tx d)
  | .none, _, _, h, p => by cases h; exact ⟨.none, .non, p.mono (Nat.le_refl _) (by omega)⟩
  | .bool c, _, _, h, p => by cases h; exact ⟨.bool c, .bl c, p.mono (Nat.le_refl _) (by omega)⟩
  | .int i, _, _, h, p => by cases h; exact ⟨.int i, .int i, p.mono (Nat.le_refl _) (by omega)⟩
  | .str x, _, _, h, p => by cases h; exact ⟨.str x, .str x, p.mono (Nat.le_refl _) (by omega)⟩
  | .list ds, _, n, h, p => by
    cases h with
    | @lst a zs _ hs ha =>
      obtain ⟨p1, p2, p3, p4⟩ := p
      rw [PyData.showable] at p1
      rw [PyData.hasDict] at p2
      rw [PyData.depth] at p3
      cases n with
      | zero => omega
      | succ n =>
        obtain ⟨ds', g1, g2⟩ := dpAll_app hb he e1 ds zs n ha ⟨p1, p2, by omega, Nat.le_refl _⟩
        have old : SqL K (upd H b (.lst (xs ++ [y]))) a zs ∨ (a = b ∧ zs = xs) := by
          by_cases hab : a = b
          · subst hab
            rcases hs with (hs | ⟨o, hs⟩) | hs
            · rw [hb] at hs
              cases hs
              exact Or.inr ⟨rfl, rfl⟩
            · rw [hb] at hs
              cases hs
            · exact Or.inl (.inr hs)
          · rcases hs with (hs | ⟨o, hs⟩) | hs
            · exact Or.inl (.inl (.inl (by rw [upd_ne hab]; exact hs)))
            · exact Or.inl (.inl (.inr ⟨o, by rw [upd_ne hab]; exact hs⟩))
            · exact Or.inl (.inr hs)
        rcases old with hs' | ⟨rfl, rfl⟩
        · refine ⟨.list ds', .lst hs' g1, (plain_list g2).mono (Nat.le_refl _) ?_⟩
          rw [tx]
          omega
        · refine ⟨.list (ds' ++ [e]), .lst (SqL.of upd_same) (dpAll_snoc g1 (he _)), (plain_list (plain_snoc (e1.mono (Nat.zero_le n) (Nat.le_refl _)) g2)).mono (Nat.le_refl _) ?_⟩
          rw [tx]
          omega
  | .tuple ds, _, n, h, p => by
    cases h with
    | @tup a zs _ hs ha =>
      obtain ⟨p1, p2, p3, p4⟩ := p
      rw [PyData.showable] at p1
      rw [PyData.hasDict] at p2
      rw [PyData.depth] at p3
      cases n with
      | zero => omega
      | succ n =>
        obtain ⟨ds', g1, g2⟩ := dpAll_app hb he e1 ds zs n ha ⟨p1, p2, by omega, Nat.le_refl _⟩
        have hs' : SqT K (upd H b (.lst (xs ++ [y]))) a zs := by
          rcases hs with (hs | ⟨o, hs⟩) | hs
          · exact .inl (.inl (by rw [upd_ne (ne_of hs hb (by intro z; cases z))]; exact hs))
          · exact .inl (.inr ⟨o, by rw [upd_ne (ne_of hs hb (by intro z; cases z))]; exact hs⟩)
          · exact .inr hs
        refine ⟨.tuple ds', .tup hs' g1, (plain_tuple g2).mono (Nat.le_refl _) ?_⟩
        rw [tx]
        omega
  | .dict _, _, _, h, _ => by cases h
theorem dpAll_app {K : PySem.W.Frag} {H : Hp} {b : Addr} {xs : List V} {y : V} {e : PyData} (hb : H b = some (.lst xs)) (he : ∀ H' : Hp, Dp K H' y e) (e1 : Plain e 0 2) :
    ∀ (ds : List PyData) (vs : List V) (n : Nat), DpAll K H vs ds → PlainAll ds n (txAll ds) → ∃ ds', DpAll K (upd H b (.lst (xs ++ [y]))) vs ds' ∧ PlainAll ds' n (4 * txAll ds)
  | [], _, _, h, _ => by cases h; exact ⟨[], .nil, PlainAll.nil⟩
  | d :: ds, _, n, h, p => by
    cases h with
    | cons h1 h2 =>
      obtain ⟨p1, p2, p3, p4⟩ := p
      rw [PyData.showableAll, Bool.and_eq_true] at p1
      rw [PyData.hasDictAll, Bool.or_eq_false_iff] at p2
      rw [PyData.depthAll] at p3
      obtain ⟨d', q1, q2⟩ := dp_app hb he e1 d _ n h1 ⟨p1.1, p2.1, by omega, Nat.le_refl _⟩
      obtain ⟨ds', r1, r2⟩ := dpAll_app hb he e1 ds _ n h2 ⟨p1.2, p2.2, by omega, Nat.le_refl _⟩
      refine ⟨d' :: ds', .cons q1 r1, (PlainAll.cons q2 r2).mono (Nat.le_refl _) ?_⟩
      rw [txAll]
      omega
end
theorem Rep.app {K : PySem.W.Frag} {H : Hp} {b : Addr} {xs : List V} {y : V} {e : PyData} {v : V} {n m : Nat} (hb : H b = some (.lst xs)) (he : ∀ H' : Hp, Dp K H' y e) (e1 : Plain e 0 2) (h : Rep K H v n m) :
    Rep K (upd H b (.lst (xs ++ [y]))) v n (4 * m) := by
  obtain ⟨d, h1, h2⟩ := h
  obtain ⟨d', g1, g2⟩ := dp_app hb he e1 d v n h1 ⟨h2.sh, h2.nd, h2.dp, Nat.le_refl _⟩
  have := h2.tx
  exact ⟨d', g1, g2.mono (Nat.le_refl _) (by omega)⟩
end Tq

namespace Tq
open PySem L2 PySem.Spec PyProof.Rows PySem.HandSPX
/-! readings and rules -/
/-- C(..) by the own __init__ of C; the new error is held -/
def tExI (C : Addr) (sp : Sp) (gV : List V → List V) (ta : TA) : TE := fun σ H Q => ta σ H fun vs H1 => vs.length ≤ 1000 ∧
  ∀ a, H1 a = none → sp (.ref a :: gV vs) (upd H1 a (exo a C none)) (fun v H2 => v = .non ∧ Q (.ref a) H2) E0
/-- what is known of an own error class and its __init__ -/
structure ExCl (K : PySem.W.Frag) (mg : Str → Option Value) (x : Str) (C : Addr) : Prop where
  gC : mg x = some (.ref C)
  ox : OexC K C
  ec : ExcC K C
theorem ExCl.xf {K : PySem.W.Frag} {mg : Str → Option Value} {x : Str} {C : Addr} (T : ExCl K mg x C) : XfC K C := ⟨T.ec.hg, T.ec.hk, T.ec.hs, T.ec.hd⟩
structure ExIn (K : PySem.W.Frag) (C fI : Addr) : Prop where
  iC : PySem.W.findIn K (.ref C) "__init__" = some (some (.ref fI))
  tI : PySem.W.typeIn K (.ref fI) = some (.type "function")
section
variable {X : Cx} {C fI : Addr} {k : Nat} {fd : FuncData} {ps : List Str} {sp : Sp} {x : Str} {p pos : Pos} {e : Expr} {es : List Expr} {ta : TA}
theorem run_ex {pins : List (Addr × Obj)} {σ : L2.St} {H1 : Hp} {s1 : Shared} {Q : VK} {us ys : List Value} {xs : List V} {kw : List (Str × Value)} (T : OexC X.K C) (J : ExIn X.K C fI)
    (F1 : FnOk X.prog X.w X.K X.mg X.base CX0 k fI fd ps sp) (hr : Room (k + 1) X.A) (I1 : Inv X pins σ H1 s1) (rel : Vals xs ys)
    (bind : ∀ (s : Shared) (a : Addr), X.K.In s.heap → (Value.ref a :: ys).length = ps.length → BindsTo s fd ⟨Value.ref a :: us, kw⟩ (ps.zip (Value.ref a :: ys)))
    (hus : us.length ≤ 1000) (q1 : ∀ a, H1 a = none → sp (.ref a :: xs) (upd H1 a (exo a C none)) (fun v H2 => v = .non ∧ Q (.ref a) H2) E0) :
    wpAny (model X.prog X.w) X.A (call (.ref C) us kw) (EP X pins σ Q) X.xe s1 := by
  obtain ⟨nm, q, N, bs, bm, sn, sub, ab, col, dd, k0, k1, k2, k3, k5, hC, hbm⟩ := T.cls
  obtain ⟨hp, g, dr, tk, os⟩ := s1
  have hsz : hp.objs.size ≤ hp.objs.size + 1 := Nat.le_succ _
  have hq := q1 (hp.objs.size + 1) (I1.hok.fresh hsz)
  have kk : ∀ b o, hp.get? b = some o → ((hp.push (PySem.W.kdv_tup us)).push (excO C hp.objs.size)).get? b = some o := fun b o e => Heap.get?_push_of_some _ (Heap.get?_push_of_some _ e)
  have hget : ((hp.push (PySem.W.kdv_tup us)).push (excO C hp.objs.size)).get? (hp.objs.size + 1) = some (excO C hp.objs.size) := by heap_get
  have I2 : Inv X pins σ (upd H1 (hp.objs.size + 1) (exo (hp.objs.size + 1) C none)) ⟨(hp.push (PySem.W.kdv_tup us)).push (excO C hp.objs.size), g, dr, tk, os⟩ :=
    I1.laid (t' := tk) (a := hp.objs.size + 1) (o := exo (hp.objs.size + 1) C none) kk hsz (exo_ok hget)
  have r2 : Vals (V.ref (hp.objs.size + 1) :: xs) (Value.ref (hp.objs.size + 1) :: ys) := .cons rfl rel
  have hl : (Value.ref (hp.objs.size + 1) :: ys).length = ps.length := by
    rw [← r2.length]
    exact F1.len _ _ _ _ hq
  have hz : us.length ≤ sizeLine := Nat.le_trans hus (by rw [sizeLine_eq]; decide)
  refine wpAny_call (callK F.excBase_ValueError (fun Y => refsVE_contains Y bm hbm) (I1.kIn _ _ hC) (PySem.W.looks_findIn I1.kIn J.iC) (fun self => PySem.W.bind_fn I1.kIn self J.tI) hz
    (codeAny_mono (F1.run _ X.stack _ _ ⟨Value.ref (hp.objs.size + 1) :: us, kw⟩ (Value.ref (hp.objs.size + 1) :: ys) _ _ E0 (hr.make C us kw) (I2.env0.make C us kw) (bind _ _ I2.kIn hl) r2 hq) fun r s' hq' => ?_))
  cases r with
  | error er => exact hq'.elim
  | ok fl =>
    cases fl with
    | ret u =>
      obtain ⟨v, H', I3, rv, ev, q3⟩ := I2.after hq'
      subst ev
      exact ⟨rv, ⟨V.ref (hp.objs.size + 1), H', I3, rfl, q3⟩⟩
    | next => exact hq'.elim
    | brk => exact hq'.elim
    | cont => exact hq'.elim
/-- C(e, ..) -/
theorem pe_exI (T : ExCl X.K X.mg x C) (J : ExIn X.K C fI) (F1 : FnOk X.prog X.w X.K X.mg X.base CX0 k fI fd ps sp) (hb : Binds X.K fd ps []) (hr : Room (k + 1) X.A) (ha : PA X (e :: es) ta)
    (hg : Gl X x := by rfl) (hdb : (x == ("__debug__" : Str)) = false := by decide)
    (he : starEach (e :: es) X.env = (false, eval e X.env) :: starEach es X.env := by rfl) (hpl : (backTo pos (starEach es X.env)).any (·.1) = false := by rfl) :
    PE X (.Call (.Name x p) (e :: es) [] pos) (tExI C sp id ta) := by
  refine ⟨fun pins s σ H Q I h => ?_⟩
  refine wpAny_Call_Name_kw (ld_glob I hg T.gC ?_ hdb)
  refine PySem.W.callWith_K (h₀ := X.base) I.ok.mod.kin T.ox.kC (thn (ha.run pos pins s σ H _ I h) fun us s1 hh => ?_) he hpl
  obtain ⟨vs, H1, I1, r1, hz, q1⟩ := hh
  refine ⟨I1.kIn, run_ex T.ox J F1 hr I1 r1 (fun s a hk hl => ?_) (by show us.length ≤ 1000; rw [← r1.length]; exact hz) q1⟩
  have z := hb s (Value.ref a :: us) hk (by rw [List.append_nil]; exact hl)
  rw [List.append_nil] at z
  exact z
/-- C(k = e, ..), all fields by their names: g puts them in order -/
theorem pe_exK {kws : List Keyword} {ks : List Str} {g : List Value → List Value} {gV : List V → List V} (T : ExCl X.K X.mg x C) (J : ExIn X.K C fI) (F1 : FnOk X.prog X.w X.K X.mg X.base CX0 k fI fd ps sp)
    (hgr : ∀ {vs : List V} {us : List Value}, Vals vs us → Vals (gV vs) (g us))
    (hb : ∀ (s : Shared) (u : Value) (ws : List Value), (u :: g ws).length = ps.length → BindsTo s fd ⟨[u], ks.zip ws⟩ (ps.zip (u :: g ws))) (hr : Room (k + 1) X.A) (hkw : PK X kws ta)
    (hg : Gl X x := by rfl) (hall : (backToKw pos (keywordEach kws X.env)).all (·.1.isSome) = true := by rfl) (hks : (backToKw pos (keywordEach kws X.env)).filterMap (·.1) = ks := by rfl)
    (hdb : (x == ("__debug__" : Str)) = false := by decide) (hpl : ((backTo pos (starEach [] X.env)).any (·.1) || (backToKw pos (keywordEach kws X.env)).any (·.1.isNone)) = false := by rfl) :
    PE X (.Call (.Name x p) [] kws pos) (tExI C sp gV ta) := by
  refine ⟨fun pins s σ H Q I h => ?_⟩
  refine wpAny_Call_Name_kw (ld_glob I hg T.gC ?_ hdb)
  refine PySem.W.callWith_KW0 (h₀ := X.base) I.ok.mod.kin T.ox.kC hall ?_ hpl
  refine thn (hkw.run pos pins s σ H _ I h) fun ws s2 hh => ?_
  obtain ⟨zs, H2, I2, rz, hz, q2⟩ := hh
  refine ⟨I2.kIn, ?_⟩
  rw [hks]
  exact run_ex (us := []) T.ox J F1 hr I2 (hgr rz) (fun s a hk hl => hb s (.ref a) ws hl) (by simp) q2
/-- C(), no own __init__ -/
def tEx0 (C : Addr) : TE := fun _ H Q => ∀ a, H a = none → Q (.ref a) (upd H a (exo a C none))
theorem pe_ex0 {bmB : List Value} {B newId initId : String} (F : ExcBaseFacts B newId initId bmB) (q : PySem.W.excIn X.K C bmB newId = true) (T : ExCl X.K X.mg x C) (hg : Gl X x := by rfl)
    (hdb : (x == ("__debug__" : Str)) = false := by decide) : PE X (.Call (.Name x p) [] [] pos) (tEx0 C) := by
  refine ⟨fun pins s σ H Q I h => ?_⟩
  refine wpAny_Call_Name_kw (ld_glob I hg T.gC ?_ hdb)
  refine PySem.W.callWith_K0 I.kIn T.ox.kC ?_
  show wpAny _ _ (call (.ref C) []) _ _ _
  obtain ⟨bm, N, nm, qn, bs, hdct, sn, sub, ab, col, dd, k0, k1, k2, k3, k5, mN, hC, hN, hni, T2⟩ := exc_obj I.kIn q
  refine wpAny_call_exc_subT F T2 hC hN hni (fun h' a hm => ?_) (by rw [sizeLine_eq]; decide)
  have hn : H a = none := I.hok.gone hm.new
  obtain ⟨t, ht, _, _⟩ := hm.there
  exact ⟨.ref a, upd H a (exo a C none), I.un (Un.laidN hm.keeps hm.new hn) (I.hok.laidN hm.keeps hn (exo_ok ht)), rfl, h a hn⟩
/-- e.f, e an error that is held -/
def tXfl (K : PySem.W.Frag) (f : Str) (te : TE) : TE := fun σ H Q => te σ H fun x H1 => ∃ (a C dx : Addr) (fs : List (Str × V)) (v : V), x = .ref a ∧ H1 a = some (exo a C (some dx)) ∧
  H1 dx = some (exd dx fs) ∧ XfC K C ∧ PySem.W.findIn K (.ref C) f = some none ∧ fs.lookup f = some v ∧ Q v H1
theorem pe_xfl {te : TE} {n : Str} (he : PE X e te) (hb : attributeBase e n X.env (eval e X.env) = eval e X.env := by rfl) : PE X (.Attribute e n pos) (tXfl X.K n te) := by
  refine ⟨fun pins s σ H Q I h => ?_⟩
  refine attr_of hb (thn (he.run pins s σ H _ I h) fun u s1 hh => ?_)
  obtain ⟨x, H1, I1, rx, a, C, dx, fs, v, ex, ea, ed, T, hno, l, q⟩ := hh
  subst ex
  obtain rfl : u = Value.ref a := rx
  obtain ⟨t1, ho⟩ := exo_at I1.hok ea
  obtain ⟨mA, hns, hr⟩ := exd_at I1.hok ed
  obtain ⟨od, hod, hl⟩ := lookIn_ns hns
  obtain ⟨u, hu, ru⟩ := RelO.some_of (v := v) (o := mA n) (by rw [← l]; exact hr n)
  have J : PySem.W.InstAt s1.heap a { cls := .ref C, dict := some dx, data := .fields #[.ref t1, .none, .none, .none, .bool false, .none] } C (some od) := ⟨ho, rfl, rfl, hod⟩
  exact HandSPX.exc_get I1.kIn J T.ga T.gg T.exC (PySem.W.findObj_own T.hdC hno rfl (by rw [hl, hu])) (handed_of ru) ⟨v, H1, I1.tok _, ru, q⟩
end
/-! isinstance of an error that is held -/
end Tq
namespace PySem.W
open PySem PySem.Spec PySem.Calls PyProof.Rows
section
variable {prog : Program} {w : World} {A : Around} {E : Value → Shared → Prop} {s : Shared} {K : Frag} {x D : Addr} {ox : Obj} {od : Option Obj}
theorem tq_findObj {C : Addr} {name : Str} {a g : Value} (hc : (clsIn K C).isSome = true) (ha : findIn K (.ref C) name = some (some a)) (hg : specialIn K a "__get__" = some (some g))
    (ht : takesIn K a = some true) : findObj K C od name = some (.bind g a) := by
  obtain ⟨cd, hc⟩ := Option.isSome_iff_exists.mp hc
  unfold findObj
  rw [hc, Option.bind_some, ha, Option.bind_some]
  simp [hg, ht]
theorem tq_class {Q : Option Value → Shared → Prop} (T : L2.ExcC K D) (X : K.In s.heap) (I : InstAt s.heap x ox D od) (h : Q (some (.ref D)) { s with toks := s.toks + 1 }) :
    wpAny (model prog w) A (getAttr? (.ref x) "__class__") Q E s := by
  obtain ⟨hga, hgt, hsub, hdct, ha, hn, htk, hm⟩ := T
  have hf : findObj K D od "__class__" = some (.bind (.builtin "getset_descriptor.__get__") (.builtin "object.__class__")) :=
    tq_findObj (by obtain ⟨cd, hc, _⟩ := any_some hdct; rw [hc]; rfl) ha hn htk
  obtain ⟨hp, g, d, t, os⟩ := s
  have L0 := I.type (M := model prog w)
  have L1 := looks_findIn (M := model prog w) X hga
  have L2 := looks_findIn (M := model prog w) X hgt
  have L3 := looks_find (M := model prog w) X I hf
  have sub : Looks (model prog w) hp (isInstance (.ref x) (.type "BaseException")) true := L0.andThen (looks_subIn X hsub)
  have x0 : (false && onTheHeap (Value.builtin "BaseException.__getattribute__")) = false := rfl
  have x2 : (Value.builtin "BaseException.__getattribute__" == Value.builtin "object.__getattribute__") = false := by decide +kernel
  have x1 : (onTheHeap (Value.ref D) && Value.builtin "BaseException.__getattribute__" == Value.builtin "object.__getattribute__") = false := by rw [x2]; rfl
  unfold getAttr? getAttrBy? getAttrBy
  refine wpAny_bind (wpAny_mkText (wpAny_bind (wpAny_attempt (wpAny_holding (wpAny_bind (L0.at (wpAny_bind (L1.at ?_))))))))
  show wpAny _ _ (if (onTheHeap (Value.ref D) && Value.builtin "BaseException.__getattribute__" == Value.builtin "object.__getattribute__") = true then _ else _) _ _ _
  rw [x1, if_neg Bool.false_ne_true]
  unfold getAttrByItsOwn hookBefore
  refine wpAny_bind ?_
  rw [if_pos (show onTheHeap (Value.ref D) = true from rfl)]
  refine L2.at ?_
  refine wpAny_bind (wpAny_attempt (wpAny_holding ?_))
  unfold callGetattribute
  rw [x0, if_neg Bool.false_ne_true]
  unfold boundAndCalled
  rw [PySem.F.excAttr_ValueError.ga.bind (.ref x)]
  refine wpAny_bind (wpAny_pure ?_)
  show wpAny _ _ (call (.builtin "BaseException.__getattribute__") [.ref x, .str "__class__" t]) _ _ _
  refine wpAny_call (codeAny_call_builtin PySem.F.excAttr_ValueError.ga.plain PySem.F.entry_bexc_ga ?_)
  refine @check_slot (model prog w) _ _ ⟨hp, g, d, t + 1, os⟩ "BaseException.__getattribute__" "BaseException" "__getattribute__" (.ref x) [.str "__class__" t] [] _
    (by decide +kernel) (by decide +kernel) sub (PySem.F.args_bexc_ga (.ref x) (.str "__class__" t)) ?_
  unfold Builtin.«object.__getattribute__»
  refine wpAny_bind (wpAny_of_eq (a := ((Value.ref x : Value), [Value.str "__class__" t])) (by first | rfl | (simp only [slotArgs]; rfl)) ?_)
  refine wpAny_bind (wpAny_pure (wpAny_bind (L0.at (wpAny_bind (L3.at ?_)))))
  show wpAny _ _ (holding [Value.builtin "object.__class__"] (call (.builtin "getset_descriptor.__get__") [.builtin "object.__class__", .ref x, .ref D]) >>= ret) _ _ _
  refine wpAny_bind (wpAny_holding (wpAny_call (class_get (s := ⟨hp, g, d, t + 1, os⟩) (ox := ox) (od := od) X I hm ?_)))
  refine wpAny_pure ?_
  show wpAny _ _ (handedOut (.ref D)) _ _ _
  rw [handedOut_of (v := .ref D) rfl]
  first
    | exact wpAny_pure (wpAny_pure h)
    | exact wpAny_pure h
    | exact wpAny_pure (wpAny_bind (wpAny_pure (wpAny_pure h)))
theorem tq_kitx (T : L2.ExcC K D) : KitX K (.ref x) (.ref D) (fun h => InstAt h x ox D od) where
  ty := fun _ _ _ I => I.type
  it := fun _ _ X _ => by
    obtain ⟨cdD, hcD, _⟩ := any_some T.hd
    unfold clsIn at hcD
    split at hcD
    · rename_i ho
      intro A' Q' E' s' k q
      unfold isType loadHead
      exact wpAny_bind (wpAny_loadPart (k _ _ (X _ _ ho)) (wpAny_pure q))
    · cases hcD
  ne := fun h tp dd its n sl X htp => by
    obtain ⟨cdD, hcD, _⟩ := any_some T.hd
    refine Bool.eq_false_iff.mpr fun q => ?_
    have e : D = tp := Value.ref.inj (beq_iff_eq.mp q)
    subst e
    unfold clsIn at hcD
    split at hcD
    · rename_i ho
      cases (X _ _ ho).symm.trans htp
    · cases hcD
  ca := fun X I k => tq_class T X I k
end
end PySem.W
namespace Tq
open PySem L2
def rIsX (K : PySem.W.Frag) : List V → Hp → VK → Prop := fun xs H Q => ∃ (a C : Addr) (d : Option Addr) (c : V) (u : Value) (b : Bool), xs = [.ref a, c] ∧ H a = some (exo a C d) ∧
  (∀ dx, d = some dx → ∃ fs, H dx = some (exd dx fs)) ∧ ExcC K C ∧ ClsV c u ∧ PySem.W.kitOne K (.ref C) u = some b ∧ Q (.bl b) H
theorem call_isX {X : Cx} : CallR X (.builtin "isinstance") (rIsX X.K) := by
  intro pins s σ H xs us Q I r h
  obtain ⟨a, C, d, c, u, b, rfl, ha, hd, T, k, e, q⟩ := h
  obtain ⟨u1, u2, rfl, r1, r2⟩ := vals2 r
  have e2 := k.eq r2
  subst e2
  obtain rfl : u1 = Value.ref a := r1
  obtain ⟨t1, ho⟩ := exo_at I.hok ha
  have J : ∃ od, PySem.W.InstAt s.heap a { cls := .ref C, dict := d, data := .fields #[.ref t1, .none, .none, .none, .bool false, .none] } C od := by
    cases d with
    | none => exact ⟨none, ho, rfl, rfl, trivial⟩
    | some dx =>
      obtain ⟨fs, hx⟩ := hd dx rfl
      obtain ⟨mA, ⟨o, es, ep, h1, _⟩, _⟩ := exd_at I.hok hx
      exact ⟨some o, ho, rfl, rfl, h1⟩
  obtain ⟨od, J⟩ := J
  exact PySem.W.kia_one (PySem.W.tq_kitx T) I.kIn J e (fun z => nomatch z) fun tk => ⟨.bl b, H, I.tok tk, rfl, q⟩
end Tq

/-! ### errors that are held, by their class and fields -/
namespace Tq
open PySem L2 PyProof.Rows
/-- an error of the class at C with these fields -/
def Er (H : Hp) (C : Addr) (v : V) (fs : List (Str × V)) : Prop := ∃ (a : Addr) (d : Option Addr), v = .ref a ∧ H a = some (exo a C d) ∧ ((d = none ∧ fs = []) ∨ ∃ dx, d = some dx ∧ H dx = some (exd dx fs))
theorem Er.same {H H' : Hp} {C : Addr} {v : V} {fs : List (Str × V)} (h : Er H C v fs) (e : Same H H') : Er H' C v fs := by
  obtain ⟨a, d, rfl, h1, h2⟩ := h
  refine ⟨a, d, rfl, e _ _ h1, ?_⟩
  rcases h2 with h2 | ⟨dx, h3, h4⟩
  · exact Or.inl h2
  · exact Or.inr ⟨dx, h3, e _ _ h4⟩
/-- a class below TreeError (at TE), as the top has made it -/
structure Kl (K : PySem.W.Frag) (mg : Str → Option Value) (x : Str) (C TE : Addr) : Prop where
  g : mg x = some (.ref C)
  lk : ∃ q N bs sn sub ab col dd k0 k1 k2 k3 k5, K.lookup C = some (excClassObj x q C N bs [.ref TE, .type "ValueError", .type "Exception", .type "BaseException", .type "object"] true sn sub ab col dd k0 k1 k2 k3 k5 "ValueError.__new__")
  ec : ExcC K C
  sa : PySem.W.findIn K (.ref C) "__setattr__" = some (some (.builtin "object.__setattr__"))
  ty : PySem.W.typeIn K (.ref C) = some (.type "type")
  kp : PySem.W.keepIn K (.ref C) = true
theorem kl_mk {K : PySem.W.Frag} {h : Heap} {mg : Str → Option Value} {x : Str} {C TE : Addr} {q : Str} {N : Addr} {bs : List Value} {sn : List Str} {sub : List Value} {ab : Bool} {col : Option Bool} {dd : Option Addr}
    {k0 k1 k2 k3 k5 : Option Value} (X : K.In h) (G : h.Ns mainGlobals mg) (a : PySem.W.nsIn K mainGlobals x = some (some (.ref C)))
    (l : K.lookup C = some (excClassObj x q C N bs [.ref TE, .type "ValueError", .type "Exception", .type "BaseException", .type "object"] true sn sub ab col dd k0 k1 k2 k3 k5 "ValueError.__new__"))
    (h1 : PySem.W.findIn K (.ref C) "__getattribute__" = some (some (.builtin "BaseException.__getattribute__"))) (h2 : PySem.W.findIn K (.ref C) "__getattr__" = some none)
    (h3 : PySem.W.subIn K (.ref C) (.type "BaseException") = some true) (h4 : PySem.W.hasDictIn K C = true) (h5 : PySem.W.findIn K (.ref C) "__class__" = some (some (.builtin "object.__class__")))
    (h6 : PySem.W.specialIn K (.builtin "object.__class__") "__get__" = some (some (.builtin "getset_descriptor.__get__"))) (h7 : PySem.W.takesIn K (.builtin "object.__class__") = some true)
    (h8 : PySem.W.mroIn K C (.type "object") = some true) (sa : PySem.W.findIn K (.ref C) "__setattr__" = some (some (.builtin "object.__setattr__")))
    (ty : PySem.W.typeIn K (.ref C) = some (.type "type")) (kp : PySem.W.keepIn K (.ref C) = true) : Kl K mg x C TE :=
  ⟨PySem.W.mg_of X G a, ⟨q, N, bs, sn, sub, ab, col, dd, k0, k1, k2, k3, k5, l⟩, ⟨h1, h2, h3, h4, h5, h6, h7, h8⟩, sa, ty, kp⟩
section
variable {K : PySem.W.Frag} {mg : Str → Option Value} {x y : Str} {C D TE : Addr}
theorem Kl.cl (T : Kl K mg x C TE) : ExCl K mg x C := by
  obtain ⟨q, N, bs, sn, sub, ab, col, dd, k0, k1, k2, k3, k5, l⟩ := T.lk
  exact ⟨T.g, ⟨⟨_, q, N, bs, _, sn, sub, ab, col, dd, k0, k1, k2, k3, k5, l, rfl⟩, T.sa, T.ec.hs, T.ty, T.kp⟩, T.ec⟩
theorem Kl.sub (T : Kl K mg x C TE) (b : Value) : PySem.W.subIn K (.ref C) b = some ([Value.ref C, .ref TE, .type "ValueError", .type "Exception", .type "BaseException", .type "object"].contains b) := by
  obtain ⟨q, N, bs, sn, sub, ab, col, dd, k0, k1, k2, k3, k5, l⟩ := T.lk
  show PySem.W.mroIn K C b = _
  unfold PySem.W.mroIn PySem.W.clsIn
  rw [l]
  rfl
theorem Kl.cls (T : Kl K mg x C TE) : (PySem.W.clsIn K C).isSome = true := by
  obtain ⟨q, N, bs, sn, sub, ab, col, dd, k0, k1, k2, k3, k5, l⟩ := T.lk
  unfold PySem.W.clsIn
  rw [l]
  rfl
theorem Kl.ne (T : Kl K mg x C TE) (U : Kl K mg y D TE) (h : x ≠ y) : C ≠ D := by
  rintro rfl
  obtain ⟨q, N, bs, sn, sub, ab, col, dd, k0, k1, k2, k3, k5, l⟩ := T.lk
  obtain ⟨q', N', bs', sn', sub', ab', col', dd', k0', k1', k2', k3', k5', l'⟩ := U.lk
  rw [l] at l'
  have e := congrArg (fun o : Option Obj => o.map (·.data)) l'
  simp only [excClassObj, Option.map_some, Option.some.injEq] at e
  injection e with e
  injection e with e
  exact h e
theorem Kl.kit_own (T : Kl K mg x C TE) : PySem.W.kitOne K (.ref C) (.ref C) = some true := by
  unfold PySem.W.kitOne
  rw [if_pos (beq_self_eq_true _)]
theorem Kl.kit_other (T : Kl K mg x C TE) (U : Kl K mg y D TE) (h : x ≠ y) (hD : D ≠ TE) : PySem.W.kitOne K (.ref C) (.ref D) = some false := by
  have ne := T.ne U h
  unfold PySem.W.kitOne
  rw [if_neg (by simpa using ne)]
  unfold PySem.W.kitCls
  simp only [U.cls, U.ty, T.sub]
  rw [if_pos (by decide)]
  have n1 : (Value.ref D == Value.ref C) = false := by simpa using Ne.symm ne
  have n2 : (Value.ref D == Value.ref TE) = false := by simpa using hD
  have n3 : ∀ s, (Value.ref D == Value.type s) = false := fun s => by simp
  simp [List.contains_cons, Ne.symm ne, hD]
theorem Kl.kit_ve (T : Kl K mg x C TE) : PySem.W.kitOne K (.ref C) (.type "ValueError") = some true := by
  unfold PySem.W.kitOne
  rw [if_neg (by simp)]
  show (if PySem.W.kitMeta "ValueError" = true then PySem.W.subIn K (.ref C) (.type "ValueError") else none) = some true
  rw [if_pos (by decide +kernel), T.sub]
  simp [List.contains_cons]
/-- TreeError itself -/
structure KT (K : PySem.W.Frag) (mg : Str → Option Value) (TE : Addr) : Prop where
  g : mg "TreeError" = some (.ref TE)
  cls : (PySem.W.clsIn K TE).isSome = true
  ty : PySem.W.typeIn K (.ref TE) = some (.type "type")
  nm : ∃ o, K.lookup TE = some o ∧ ∀ nm q N bs bm h sn sub ab col dd k0 k1 k2 k3 k5, o = excClassObj nm q TE N bs bm h sn sub ab col dd k0 k1 k2 k3 k5 "ValueError.__new__" → nm = "TreeError"
theorem Kl.kit_te (T : Kl K mg x C TE) (U : KT K mg TE) : PySem.W.kitOne K (.ref C) (.ref TE) = some true := by
  unfold PySem.W.kitOne
  split
  · rfl
  · unfold PySem.W.kitCls
    simp only [U.cls, U.ty, T.sub]
    rw [if_pos (by decide)]
    simp [List.contains_cons]
theorem Kl.ne_te (T : Kl K mg x C TE) (U : KT K mg TE) (h : x ≠ "TreeError") : C ≠ TE := by
  rintro rfl
  obtain ⟨q, N, bs, sn, sub, ab, col, dd, k0, k1, k2, k3, k5, l⟩ := T.lk
  obtain ⟨o, l', e⟩ := U.nm
  rw [l] at l'
  exact h (e _ _ _ _ _ _ _ _ _ _ _ _ _ _ _ _ (Option.some.inj l').symm)
end
/-- the own __init__ of a class, which keeps the fields by these names -/
def spI (K : PySem.W.Frag) (names : List Str) : Sp := fun vs H Q _ => ∃ (a C : Addr) (ws : List V), vs = .ref a :: ws ∧ ws.length = names.length ∧ OexC K C ∧ (∀ f ∈ names, PySem.W.findIn K (.ref C) f = some none) ∧
  H a = some (exo a C none) ∧ ∀ (H' : Hp) (dx : Addr), H dx = none → dx ≠ a → H' a = some (exo a C (some dx)) → H' dx = some (exd dx (names.zip ws).reverse) →
    (∀ b o, H b = some o → b ≠ a → H' b = some o) → Q .non H'
structure In1 (K : PySem.W.Frag) (C : Addr) (qual : Str) (st : Stmt) (names : List Str) : Prop where
  ex : ∃ (f : Addr) (fd : FuncData), ExIn K C f ∧ Fun K "__init__" qual st f fd
  no : ∀ f ∈ names, PySem.W.findIn K (.ref C) f = some none
theorem in1_mk {K : PySem.W.Frag} {C : Addr} {qual : Str} {st : Stmt} {names : List Str} {f : Addr} {oc : Value} {od an : Option Addr} {osl : Array (Option Value)} {kV doc pm cdv ct : Value}
    (a : PySem.W.findIn K (.ref C) "__init__" = some (some (.ref f))) (t : PySem.W.typeIn K (.ref f) = some (.type "function"))
    (l : K.lookup f = some ⟨oc, od, .func (PySem.W.fnOf "__init__" qual (defArgs st) (defBody st) (defScope st) .none kV doc pm an cdv ct), osl⟩)
    (c : PySem.W.codeIn K cdv qual = true) (k : PySem.W.keepIn K (.ref f) = true) (no : ∀ f ∈ names, PySem.W.findIn K (.ref C) f = some none) : In1 K C qual st names := ⟨⟨f, _, ⟨a, t⟩, fun_mk l c k⟩, no⟩
/-- an error class whose __init__ keeps its promise, made by place -/
structure Mk1 (P : Program) (w : World) (K : PySem.W.Frag) (mg : Str → Option Value) (base : Heap) (C : Addr) (names ps ks : List Str) (g : List Value → List Value) : Prop where
  ex : ∃ (f : Addr) (fd : FuncData), ExIn K C f ∧ L2.Binds K fd ps [] ∧ (∀ (s : Shared) (u : Value) (ws : List Value), (u :: g ws).length = ps.length → BindsTo s fd ⟨[u], ks.zip ws⟩ (ps.zip (u :: g ws))) ∧
    FnOk P w K mg base CX0 1 f fd ps (spI K names)
  no : ∀ f ∈ names, PySem.W.findIn K (.ref C) f = some none
section
variable {X : Cx} {C : Addr} {x : Str} {names ps ks : List Str} {g : List Value → List Value} {p pos : Pos} {e : Expr} {es : List Expr} {ta : TA}
/-- X(e, ..): what is left -/
def tEr (C : Addr) (names : List Str) (gV : List V → List V) (ta : TA) : TE := fun σ H Q => ta σ H fun vs H1 => (gV vs).length = names.length ∧ vs.length ≤ 1000 ∧ ∀ (v : V) (H2 : Hp), Same H1 H2 → Er H2 C v (names.zip (gV vs)).reverse → Q v H2
theorem tEr_of {K : PySem.W.Frag} {gV : List V → List V} (T : OexC K C) (no : ∀ f ∈ names, PySem.W.findIn K (.ref C) f = some none) {vs : List V} {H1 : Hp} {Q : VK} (hl : (gV vs).length = names.length)
    (h : ∀ (v : V) (H2 : Hp), Same H1 H2 → Er H2 C v (names.zip (gV vs)).reverse → Q v H2) (a : Addr) (ha : H1 a = none) : spI K names (.ref a :: gV vs) (upd H1 a (exo a C none)) (fun v H2 => v = .non ∧ Q (.ref a) H2) E0 := by
  refine ⟨a, C, gV vs, rfl, hl, T, no, upd_same, fun H' dx hd hne h1 h2 h3 => ⟨rfl, h _ _ (fun b o e => ?_) ⟨a, some dx, rfl, h1, Or.inr ⟨dx, rfl, h2⟩⟩⟩⟩
  have hb : b ≠ a := ne_of_none e ha
  exact h3 b o (by rw [upd_ne hb]; exact e) hb
/-- X(), no own __init__ -/
def tEr0 (C : Addr) : TE := fun _ H Q => ∀ (v : V) (H2 : Hp), Same H H2 → Er H2 C v [] → Q v H2
theorem pe_er0 (q : PySem.W.excIn X.K C [.type "ValueError", .type "Exception", .type "BaseException", .type "object"] "ValueError.__new__" = true) (T : ExCl X.K X.mg x C) (hg : Gl X x := by rfl)
    (hdb : (x == ("__debug__" : Str)) = false := by decide) : PE X (.Call (.Name x p) [] [] pos) (tEr0 C) := by
  have R := pe_ex0 (p := p) (pos := pos) PySem.F.excBase_ValueError q T hg hdb
  refine ⟨fun pins s σ H Q I h => R.run pins s σ H Q I fun a ha => h _ _ (fun b o e => ?_) ⟨a, none, rfl, upd_same, Or.inl ⟨rfl, rfl⟩⟩⟩
  rw [upd_ne (ne_of_none e ha)]
  exact e
theorem pe_er (T : ExCl X.K X.mg x C) (M : Mk1 X.prog X.w X.K X.mg X.base C names ps ks g) (hr : Room 2 X.A) (ha : PA X (e :: es) ta)
    (hg : Gl X x := by rfl) (hdb : (x == ("__debug__" : Str)) = false := by decide)
    (he : starEach (e :: es) X.env = (false, eval e X.env) :: starEach es X.env := by rfl) (hpl : (backTo pos (starEach es X.env)).any (·.1) = false := by rfl) :
    PE X (.Call (.Name x p) (e :: es) [] pos) (tEr C names id ta) := by
  obtain ⟨f, fd, J, hb, _, F⟩ := M.ex
  refine ⟨fun pins s σ H Q I h => ?_⟩
  refine wpAny_Call_Name_kw (ld_glob I hg T.gC ?_ hdb)
  refine PySem.W.callWith_K (h₀ := X.base) I.ok.mod.kin T.ox.kC (thn (ha.run pos pins s σ H _ I h) fun us s1 hh => ?_) he hpl
  obtain ⟨vs, H1, I1, r1, hl, hz, q1⟩ := hh
  refine ⟨I1.kIn, run_ex T.ox J F hr I1 r1 (fun s a hk hl => ?_) (by show us.length ≤ 1000; rw [← r1.length]; exact hz) (tEr_of (gV := id) T.ox M.no hl q1)⟩
  have z := hb s (Value.ref a :: us) hk (by rw [List.append_nil]; exact hl)
  rw [List.append_nil] at z
  exact z
/-- .. made by the names of the fields -/
theorem pe_erK {kws : List Keyword} {gV : List V → List V} (T : ExCl X.K X.mg x C) (M : Mk1 X.prog X.w X.K X.mg X.base C names ps ks g)
    (hgr : ∀ {vs : List V} {us : List Value}, Vals vs us → Vals (gV vs) (g us))
    (hr : Room 2 X.A) (hkw : PK X kws ta)
    (hg : Gl X x := by rfl) (hall : (backToKw pos (keywordEach kws X.env)).all (·.1.isSome) = true := by rfl) (hks : (backToKw pos (keywordEach kws X.env)).filterMap (·.1) = ks := by rfl)
    (hdb : (x == ("__debug__" : Str)) = false := by decide) (hpl : ((backTo pos (starEach [] X.env)).any (·.1) || (backToKw pos (keywordEach kws X.env)).any (·.1.isNone)) = false := by rfl) :
    PE X (.Call (.Name x p) [] kws pos) (tEr C names gV ta) := by
  obtain ⟨f, fd, J, _, kb, F⟩ := M.ex
  refine ⟨fun pins s σ H Q I h => ?_⟩
  refine wpAny_Call_Name_kw (ld_glob I hg T.gC ?_ hdb)
  refine PySem.W.callWith_KW0 (h₀ := X.base) I.ok.mod.kin T.ox.kC hall ?_ hpl
  refine thn (hkw.run pos pins s σ H _ I h) fun ws s2 hh => ?_
  obtain ⟨zs, H2, I2, rz, hl, hz, q2⟩ := hh
  refine ⟨I2.kIn, ?_⟩
  rw [hks]
  exact run_ex (us := []) T.ox J F hr I2 (hgr rz) (fun s a hk hl => kb s (.ref a) ws hl) (by simp) (tEr_of T.ox M.no hl q2)
end
end Tq

/-! ### what is new in a heap -/
namespace Tq
open PySem L2
/-- the part of H' that H has not -/
def nw (H H' : Hp) : Hp := fun b => if H b = none then H' b else none
theorem nw_of {H H' : Hp} {b : Addr} {o : HO} (h : H b = none) (h' : H' b = some o) : nw H H' b = some o := by
  unfold nw
  rw [if_pos h]
  exact h'
theorem of_nw {H H' : Hp} {b : Addr} {o : HO} (h : nw H H' b = some o) : H b = none ∧ H' b = some o := by
  unfold nw at h
  split at h
  · exact ⟨by assumption, h⟩
  · cases h
theorem nw_sub {H H' : Hp} : Same (nw H H') H' := fun b o e => (of_nw e).2
/-- the new part stands, if H grows to G and H' to G' beside it -/
theorem nw_same {H H' G G' : Hp} (h1 : ∀ b, H b = none → H' b ≠ none → G b = none) (h2 : ∀ b o, H b = none → H' b = some o → G' b = some o) : Same (nw H H') (nw G G') := fun b o e => by
  obtain ⟨e1, e2⟩ := of_nw e
  exact nw_of (h1 b e1 (by rw [e2]; exact nofun)) (h2 b o e1 e2)
/-- pick(stream, some) -/
def spPick (K : PySem.W.Frag) : Sp := fun vs H Q _ => ∃ (a l p : Addr) (xs : List V) (c : Nat), vs = [.ref a, .ref p] ∧ c < 4000000 ∧ Strm H a l c ∧ SqL K (off a l H) p xs ∧ xs ≠ [] ∧ xs.length < 1000000000 ∧
  ∀ (v : V) (H' : Hp), v ∈ xs → Strm H' a l (c + 1) → Nx a l H H' → Q v H'
/-- a statement and what follows it, by a word J between them -/
theorem seq_split {s rest : TS} {D : Ends} {σ : St} {H : Hp} (J : St → Hp → Prop) (hJ : ∀ σ H, J σ H → rest D σ H) (h : (∀ σ H, J σ H → rest D σ H) → s { D with nx := rest D } σ H) : tSeq s rest D σ H := h hJ
theorem seq_if {c : TT} {t u rest : TS} {D : Ends} {σ : St} {H : Hp} (J : St → Hp → Prop) (hJ : ∀ σ H, J σ H → rest D σ H) (h : (∀ σ H, J σ H → rest D σ H) → tIfS c t u { D with nx := rest D } σ H) : tSeq (tIfS c t u) rest D σ H := h hJ
theorem seq_for {wi : TI} {g : TG} {tb rest : TS} {D : Ends} {σ : St} {H : Hp} (J : St → Hp → Prop) (hJ : ∀ σ H, J σ H → rest D σ H) (h : (∀ σ H, J σ H → rest D σ H) → tFor wi g tb { D with nx := rest D } σ H) : tSeq (tFor wi g tb) rest D σ H := h hJ
theorem nm {i : Nat} {v : V} {σ : St} {H : Hp} {Q : St → Hp → Prop} (h : Q (σ.set i (some v)) H) : gName i v σ H Q := h
theorem yes {σ : St} {H : Hp} {A B : Hp → Prop} (h : A H) : tYes σ H (fun b H3 => if b = true then A H3 else B H3) := by
  show if true = true then A H else B H
  rw [if_pos rfl]
  exact h
theorem same_new {H : Hp} {p : Addr} {o : HO} (hp : H p = none) : Same H (upd H p o) := fun b u e => by
  rw [upd_ne (ne_of_none e hp)]
  exact e
/-- a new object: its heap by a letter -/
theorem alloc {Q : VK} {H : Hp} {o : HO} (h : ∀ p H', H p = none → Same H H' → H' p = some o → Q (.ref p) H') : ∀ p, H p = none → Q (.ref p) (upd H p o) := fun p hp => h p _ hp (same_new hp) upd_same
theorem atI_mem {xs : List V} {r : Int} (h0 : 0 ≤ r) (h1 : r < xs.length) : ∃ v, atI xs r = some v ∧ v ∈ xs := by
  have h : r.toNat < xs.length := by omega
  refine ⟨xs[r.toNat], ?_, List.getElem_mem h⟩
  exact at_of (j := r.toNat) (by omega) (List.getElem?_eq_getElem h)
end Tq


namespace K01
open PySem L2 Tq
def top (i : Nat) : Stmt := PySem.Challenge.pw_treequill_k01_errors_made.main.body.getD i (.Pass ⟨0, 0, 0, 0⟩)
abbrev s_law_draw : Stmt := top 14
abbrev N_law_draw : List Str := ["_law_stream", "_law_many", "_law_digit", "_law_mixed", "_law_last"]
theorem sc_law_draw : FnScope N_law_draw ["_law_stream", "_law_many"] (defScope s_law_draw) := ⟨rfl, rfl, rfl, by decide +kernel, rfl, by decide +kernel, by decide +kernel⟩
abbrev s_law_pick : Stmt := top 15
abbrev N_law_pick : List Str := ["_law_stream", "_law_some"]
theorem sc_law_pick : FnScope N_law_pick ["_law_stream", "_law_some"] (defScope s_law_pick) := ⟨rfl, rfl, rfl, by decide +kernel, rfl, by decide +kernel, by decide +kernel⟩
abbrev s_law_thing : Stmt := top 16
abbrev N_law_thing : List Str := ["_law_stream", "_law_deep", "_law_way", "_law_some", "_law_k"]
theorem sc_law_thing : FnScope N_law_thing ["_law_stream", "_law_deep"] (defScope s_law_thing) := ⟨rfl, rfl, rfl, by decide +kernel, rfl, by decide +kernel, by decide +kernel⟩
abbrev s_law_made : Stmt := top 17
abbrev N_law_made : List Str := ["_law_one", "_law_two", "_law_three", "_law_found"]
theorem sc_law_made : FnScope N_law_made ["_law_one", "_law_two", "_law_three"] (defScope s_law_made) := ⟨rfl, rfl, rfl, by decide +kernel, rfl, by decide +kernel, by decide +kernel⟩
abbrev s_law_named : Stmt := top 18
abbrev N_law_named : List Str := ["_law_one", "_law_two", "_law_three", "_law_found"]
theorem sc_law_named : FnScope N_law_named ["_law_one", "_law_two", "_law_three"] (defScope s_law_named) := ⟨rfl, rfl, rfl, by decide +kernel, rfl, by decide +kernel, by decide +kernel⟩
abbrev s_law_fields : Stmt := top 19
abbrev N_law_fields : List Str := ["_law_k", "_law_e"]
theorem sc_law_fields : FnScope N_law_fields ["_law_k", "_law_e"] (defScope s_law_fields) := ⟨rfl, rfl, rfl, by decide +kernel, rfl, by decide +kernel, by decide +kernel⟩
abbrev s_law_kinds : Stmt := top 20
abbrev N_law_kinds : List Str := ["_law_e", "_law_found", "_law_k"]
theorem sc_law_kinds : FnScope N_law_kinds ["_law_e"] (defScope s_law_kinds) := ⟨rfl, rfl, rfl, by decide +kernel, rfl, by decide +kernel, by decide +kernel⟩
abbrev slaw : Stmt := top 21
abbrev Nlaw : List Str := ["_law_script", "_law_stream", "_law_kept", "_law_turn", "_law_k", "_law_things", "_law_kept_text", "_law_one", "_law_two", "_law_three", "_law_made_here", "_law_dues"]
theorem sclaw : FnScope Nlaw ["_law_script"] (defScope slaw) := ⟨rfl, rfl, rfl, by decide +kernel, rfl, by decide +kernel, by decide +kernel⟩
structure Txt (mg : Str → Option Value) : Prop where
  b_int : mg "int" = none
  b_len : mg "len" = none
  b_list : mg "list" = none
  b_tuple : mg "tuple" = none
  b_repr : mg "repr" = none
  range : mg "range" = none
  b_isinstance : mg "isinstance" = none
section
variable {P : Program} {w : World} {K : PySem.W.Frag} {mg : Str → Option Value} {base : Heap}
theorem ok_draw {f : Addr} {fd : FuncData} (F : Fun K "_law_draw" "_law_draw" s_law_draw f fd) (T : Txt mg) :
    FnG P w K mg base CX0 1 f fd ["_law_stream", "_law_many"] spDraw := by
  refine okG0 F sc_law_draw (fun vs H Q E h => ?_) (fun cdv A outer s H vs Q E hq hr h => ?_)
  · obtain ⟨a, l, n, c, rfl, _⟩ := h
    rfl
  · obtain ⟨a, l, n, c, rfl, n0, n1, c1, S, k⟩ := h
    refine ⟨_, (pss_cons (ps_while PassesOwn.never (PW.pt (pw_and (pt_cmpR op_eq (pe_ix ix_list (pv 0) pe_int (fun _ _ => rfl)) pe_int (nomark _)) (pw_and1 (pt_cmpR (op_neD hr.units) (pe_ix ix_list (pv 0) pe_int (fun _ _ => rfl)) (pe_lst pa_nil) (nomark _)))))
      (pss_cons (ps_asg (pe_bm PySem.F.plainAttrs_list PySem.F.slot_list_pop PySem.F.type_list_pop mt_popAt (pe_ix ix_list (pv 0) pe_int (fun _ _ => rfl)) (pa_cons pe_int pa_nil)) (pg_sub (pv 0) pe_int set_list))
      (pss_one (ps_if (pt_cmpR op_lt (pe_ix ix_list (pv 0) pe_int (fun _ _ => rfl)) (pe_op op_pow pe_int pe_int) (nomark _))
      (pss_cons (ps_asg (pe_op op_mod (pe_callTy call_int1 (by rfl) T.b_int (by decide +kernel) (pa_cons (pe_op op_add (pe_op op_add (pe_op op_mul (pe_ix ix_list (pv 0) pe_int (fun _ _ => rfl)) pe_int) (pe_ix ix_list (pv 0) pe_int (fun _ _ => rfl))) pe_int) pa_nil)) pe_int) (pg_sub (pv 0) pe_int set_list))
      (pss_one (ps_asg pe_int (pg_sub (pv 0) pe_int set_list))))
      pss_nil))))
      (pss_cons (ps_if (pt_cmpR op_gt (pe_ix ix_list (pv 0) pe_int (fun _ _ => rfl)) pe_int (nomark _))
      (pss_cons (ps_set (i := 2) sc_law_draw.nd rfl (Or.inl rfl) (pe_op op_mod (pe_callTy call_int1 (by rfl) T.b_int (by decide +kernel) (pa_cons (pe_ix ix_list (pv 0) pe_int (fun _ _ => rfl)) pa_nil)) (pv 1)))
      (pss_cons (ps_asg (pe_op op_fdivN (pe_ix ix_list (pv 0) pe_int (fun _ _ => rfl)) (pv 1)) (pg_sub (pv 0) pe_int set_list))
      (pss_one (ps_ret (pv 2)))))
      pss_nil)
      (pss_cons (ps_asg (pe_op op_add (pe_ix ix_list (pv 0) pe_int (fun _ _ => rfl)) pe_int) (pg_sub (pv 0) pe_int set_list))
      (pss_cons (ps_set (i := 3) sc_law_draw.nd rfl (Or.inl rfl) (pe_op op_mod (pe_callTy call_int1 (by rfl) T.b_int (by decide +kernel) (pa_cons (pe_op op_pow (pe_op op_add (pe_op op_add (pe_ix ix_list (pv 0) pe_int (fun _ _ => rfl)) (pe_op op_mul pe_int (pe_ix ix_list (pv 0) pe_int (fun _ _ => rfl)))) pe_int) pe_int) pa_nil)) pe_int))
      (pss_cons (ps_set (i := 4) sc_law_draw.nd rfl (Or.inl rfl) (pe_op op_mod (pe_callTy call_int1 (by rfl) T.b_int (by decide +kernel) (pa_cons (pe_op op_pow (pe_op op_add (pe_op op_add (pe_op op_mul (pv 3) pe_int) (pe_op op_mul (pe_op op_mul pe_int (pe_ix ix_list (pv 0) pe_int (fun _ _ => rfl))) (pe_ix ix_list (pv 0) pe_int (fun _ _ => rfl)))) pe_int) pe_int) pa_nil)) pe_int))
      (pss_one (ps_ret (pe_op op_mod (pe_callTy call_int1 (by rfl) T.b_int (by decide +kernel) (pa_cons (pv 4) pa_nil)) (pv 1))))))))), ?_⟩
    obtain ⟨ns, x, kk, m, ha, hl, x0, k0, kc, m0, m1⟩ := S.ex
    refine while_split (fun σ H1 => σ = [some (.ref a), some (.int n), none, none, none] ∧ Nx a l H H1 ∧ ∃ (ns : List Int) (x m : Int),
      H1 a = some (.lst [.ref l, .int x, .int kk, .int m]) ∧ H1 l = some (.lst (ns.map V.int)) ∧ 0 ≤ x ∧ 0 ≤ m ∧ m < 2147483647) ?_ (fun fin => ?_)
    · -- behind the loop
      rintro σ H1 ⟨rfl, nx, ns, x, m, ha, hl, x0, m0, m1⟩
      have hal := strm_ne ha hl
      refine ⟨_, rfl, a, _, _, _, rfl, rfl, SqL.of ha, rfl, _, _, rfl, rfl, _, rfl, ?_⟩
      by_cases hx : (0 : Int) < x
      · refine if1 (decide_eq_true hx) ?_
        refine ⟨_, rfl, a, _, _, _, rfl, rfl, SqL.of ha, rfl, Or.inl ⟨_, rfl, _, rfl, _, _, rfl, rfl, n0, ?_⟩⟩
        refine ⟨_, rfl, a, _, _, _, rfl, rfl, SqL.of ha, rfl, _, rfl, _, _, rfl, rfl, ⟨by omega, by omega⟩, _, rfl, a, _, _, 1, rfl, rfl, ha, rfl, _, rfl, ?_⟩
        refine k _ _ (Int.emod_nonneg _ (by omega)) (Int.emod_lt_of_pos _ n0) ⟨ns, _, kk, m, upd_same, ?_, ?_, k0, by omega, m0, m1⟩ (nx.trans Nx.upd_a)
        · rw [upd_ne hal.symm]
          exact hl
        · exact Int.fdiv_nonneg (by omega) (by omega)
      · refine if0 (decide_eq_false hx) ?_
        refine ⟨_, rfl, a, _, _, _, rfl, rfl, SqL.of ha, rfl, _, _, rfl, rfl, _, rfl, a, _, _, 2, rfl, rfl, ha, rfl, ?_⟩
        have e1 : (upd H1 a (.lst [V.ref l, V.int x, V.int (kk + 1), V.int m])) a = some (.lst [V.ref l, V.int x, V.int (kk + 1), V.int m]) := upd_same
        refine ⟨_, rfl, a, _, _, _, rfl, rfl, SqL.of e1, rfl, _, rfl, a, _, _, _, rfl, rfl, SqL.of e1, rfl, _, _, rfl, rfl, Or.inl ⟨by decide, by decide⟩, _, _, rfl, rfl, _, _, rfl, rfl, _, _, rfl, rfl, ⟨by decide, by decide, ?_⟩,
          Or.inl ⟨_, rfl, _, _, rfl, rfl, (show (0 : Int) < 2147483629 by decide), ?_⟩⟩
        · omega
        have b1 := Int.emod_nonneg ((m + 104729 * (kk + 1) + 17) ^ (5 : Int).toNat) (show (2147483629 : Int) ≠ 0 by decide)
        have b2 := Int.emod_lt_of_pos ((m + 104729 * (kk + 1) + 17) ^ (5 : Int).toNat) (show (0 : Int) < 2147483629 by decide)
        generalize (m + 104729 * (kk + 1) + 17) ^ (5 : Int).toNat % 2147483629 = mx at b1 b2 ⊢
        have b3 : (kk + 1) * (kk + 1) ≤ 4000001 * 4000001 := Int.mul_le_mul (by omega) (by omega) (by omega) (by omega)
        have b4 : 0 ≤ (kk + 1) * (kk + 1) := Int.mul_nonneg (by omega) (by omega)
        have b5 : 40503 * (kk + 1) * (kk + 1) = 40503 * ((kk + 1) * (kk + 1)) := Int.mul_assoc _ _ _
        refine ⟨_, rfl, _, _, rfl, rfl, Or.inl ⟨by omega, by omega⟩, _, rfl, a, _, _, _, rfl, rfl, SqL.of e1, rfl, _, _, rfl, rfl, Or.inl ⟨by decide, by decide⟩, _, rfl, a, _, _, _, rfl, rfl, SqL.of e1, rfl,
          _, _, rfl, rfl, Or.inl ⟨by omega, by omega⟩, _, _, rfl, rfl, _, _, rfl, rfl, _, _, rfl, rfl, ⟨by decide, by decide, ?_⟩, Or.inl ⟨_, rfl, _, _, rfl, rfl, (show (0 : Int) < 1000000007 by decide), ?_⟩⟩
        · omega
        refine ⟨_, rfl, Or.inl ⟨_, rfl, _, rfl, _, _, rfl, rfl, n0, ?_⟩⟩
        refine k _ _ (Int.emod_nonneg _ (by omega)) (Int.emod_lt_of_pos _ n0) ⟨ns, x, kk + 1, m, e1, ?_, x0, by omega, by omega, m0, m1⟩ (nx.trans Nx.upd_a)
        rw [upd_ne hal.symm]
        exact hl
    refine ⟨fun z σ H' => σ = [some (.ref a), some (.int n), none, none, none] ∧ Nx a l H H' ∧ ∃ (ns : List Int) (x m : Int),
      H' a = some (.lst [.ref l, .int x, .int kk, .int m]) ∧ H' l = some (.lst (ns.map V.int)) ∧ 0 ≤ x ∧ 0 ≤ m ∧ m < 2147483647 ∧ z = ns.length,
      ⟨_, rfl, Nx.refl, ns, x, m, ha, hl, x0, m0, m1, rfl⟩, ?_⟩
    rintro z σ H1 ⟨rfl, nx, ns, x, m, ha, hl, x0, m0, m1, rfl⟩
    have hal := strm_ne ha hl
    -- the loop's test
    refine ⟨_, rfl, a, _, _, _, rfl, rfl, SqL.of ha, rfl, rfl, _, rfl, ?_⟩
    by_cases hx : x = 0
    · subst hx
      refine if1 (by decide) ?_
      refine ⟨_, rfl, a, _, _, _, rfl, rfl, SqL.of ha, rfl, (by show 0 ≤ sizeLine; decide), fun p hp => ?_⟩
      have hpa : a ≠ p := ne_of_none ha hp
      have hpl : l ≠ p := ne_of_none hl hp
      have ha2 : upd H1 p (.lst []) a = some (.lst [V.ref l, V.int 0, V.int kk, V.int m]) := by rw [upd_ne hpa]; exact ha
      have hl2 : upd H1 p (.lst []) l = some (.lst (ns.map V.int)) := by rw [upd_ne hpl]; exact hl
      have nx2 : Nx a l H (upd H1 p (.lst [])) := nx.trans (Nx.new hp)
      refine ⟨_, _, .lst (SqL.of hl2) (dpAll_ints ns), .lst (SqL.of upd_same) .nil, shaped_ints ns, rfl, _, rfl, ?_⟩
      rw [eqv_nil]
      cases ns with
      | nil => exact fin _ _ ⟨rfl, nx2, [], 0, m, ha2, hl2, x0, m0, m1⟩
      | cons y r =>
        refine ⟨fun σ' H' => σ' = [some (.ref a), some (.int n), none, none, none] ∧ Nx a l H H' ∧ ∃ (x m : Int),
          H' a = some (.lst [.ref l, .int x, .int kk, .int m]) ∧ H' l = some (.lst (r.map V.int)) ∧ 0 ≤ x ∧ 0 ≤ m ∧ m < 2147483647, ?_, ?_⟩
        · rintro σ' H' ⟨rfl, nx', x, m, h1, h2, h3, h4, h5⟩
          exact ⟨r.length, by simp, rfl, nx', r, x, m, h1, h2, h3, h4, h5, rfl⟩
        · -- stream[1] = stream[0].pop(0)
          refine ⟨_, rfl, a, _, _, _, rfl, rfl, SqL.of ha2, rfl, .inl ⟨rfl, _, SqL.of hl2⟩, l, _, _, 0, _, rfl, rfl, hl2, by decide, by decide, ix0 _ _, rfl, _, rfl, a, [V.ref l, V.int 0, V.int kk, V.int m], _, 1, rfl, rfl, ?_, rfl, ?_⟩
          · rw [upd_ne hal]
            exact ha2
          obtain ⟨H2, e2⟩ : ∃ H2, H2 = upd (upd (upd H1 p (.lst [])) l (.lst (((y :: r).map V.int).eraseIdx 0))) a (.lst ([V.ref l, V.int 0, V.int kk, V.int m].set 1 (V.int y))) := ⟨_, rfl⟩
          have ha3 : H2 a = some (.lst [V.ref l, V.int y, V.int kk, V.int m]) := by rw [e2]; exact upd_same
          have hl3 : H2 l = some (.lst (r.map V.int)) := by rw [e2, upd_ne hal.symm, upd_same]; rfl
          have nx3 : Nx a l H H2 := by rw [e2]; exact (nx2.trans Nx.upd_l).trans Nx.upd_a
          rw [← e2]
          refine ⟨_, rfl, a, _, _, _, rfl, rfl, SqL.of ha3, rfl, _, _, rfl, rfl, ⟨by decide, by decide, by decide⟩, _, _, rfl, rfl, _, rfl, ?_⟩
          by_cases hy : y < 10 ^ (18 : Int).toNat
          · refine if1 (decide_eq_true hy) ?_
            refine ⟨_, rfl, a, _, _, _, rfl, rfl, SqL.of ha3, rfl, _, _, rfl, rfl, Or.inl ⟨by omega, by omega⟩, _, rfl, a, _, _, _, rfl, rfl, SqL.of ha3, rfl, _, _, rfl, rfl, _, _, rfl, rfl, Or.inl ⟨_, rfl, _, _, rfl, rfl, (show (0 : Int) < 2147483647 by decide),
              _, rfl, a, _, _, 3, rfl, rfl, ha3, rfl, ?_⟩⟩
            refine ⟨_, rfl, a, [V.ref l, V.int y, V.int kk, V.int ((m * 31 + y + 7) % 2147483647)], _, 1, rfl, rfl, upd_same, rfl, rfl, (nx3.trans Nx.upd_a).trans Nx.upd_a, _, _, upd_same, ?_, Int.le_refl 0, Int.emod_nonneg _ (by decide), Int.emod_lt_of_pos _ (by decide)⟩
            rw [upd_ne hal.symm, upd_ne hal.symm]
            exact hl3
          · refine if0 (decide_eq_false hy) ?_
            refine ⟨rfl, nx3, y, m, ha3, hl3, ?_, m0, m1⟩
            have : (0 : Int) ≤ 10 ^ (18 : Int).toNat := by decide
            omega
    · have hd : decide (V.int x = V.int 0) = false := decide_eq_false fun e => hx (by cases e; rfl)
      refine if0 hd ?_
      exact fin _ _ ⟨rfl, nx, ns, x, m, ha, hl, x0, m0, m1⟩
end

end K01

namespace K01
open PySem L2 Tq
abbrev sBadKind : Stmt := inClass (top 2) 0
theorem scBadKind : FnScope ["self", "kind"] ["self", "kind"] (defScope sBadKind) := ⟨rfl, rfl, rfl, by decide +kernel, rfl, by decide +kernel, by decide +kernel⟩
abbrev sBadField : Stmt := inClass (top 3) 0
theorem scBadField : FnScope ["self", "kind", "name"] ["self", "kind", "name"] (defScope sBadField) := ⟨rfl, rfl, rfl, by decide +kernel, rfl, by decide +kernel, by decide +kernel⟩
abbrev sBadMode : Stmt := inClass (top 5) 0
theorem scBadMode : FnScope ["self", "mode"] ["self", "mode"] (defScope sBadMode) := ⟨rfl, rfl, rfl, by decide +kernel, rfl, by decide +kernel, by decide +kernel⟩
abbrev sBadText : Stmt := inClass (top 6) 0
theorem scBadText : FnScope ["self", "lineno", "col_offset"] ["self", "lineno", "col_offset"] (defScope sBadText) := ⟨rfl, rfl, rfl, by decide +kernel, rfl, by decide +kernel, by decide +kernel⟩
abbrev sNoText : Stmt := inClass (top 8) 0
theorem scNoText : FnScope ["self", "path"] ["self", "path"] (defScope sNoText) := ⟨rfl, rfl, rfl, by decide +kernel, rfl, by decide +kernel, by decide +kernel⟩
abbrev sBadChange : Stmt := inClass (top 9) 0
theorem scBadChange : FnScope ["self", "kind", "name"] ["self", "kind", "name"] (defScope sBadChange) := ⟨rfl, rfl, rfl, by decide +kernel, rfl, by decide +kernel, by decide +kernel⟩
abbrev sNotLiteral : Stmt := inClass (top 11) 0
theorem scNotLiteral : FnScope ["self", "path"] ["self", "path"] (defScope sNotLiteral) := ⟨rfl, rfl, rfl, by decide +kernel, rfl, by decide +kernel, by decide +kernel⟩
abbrev sBadScope : Stmt := inClass (top 12) 0
theorem scBadScope : FnScope ["self", "name", "lineno", "col_offset"] ["self", "name", "lineno", "col_offset"] (defScope sBadScope) := ⟨rfl, rfl, rfl, by decide +kernel, rfl, by decide +kernel, by decide +kernel⟩
section
variable {P : Program} {w : World} {K : PySem.W.Frag} {mg : Str → Option Value} {base : Heap}
theorem okBadKind {f : Addr} {fd : FuncData} (F : Fun K "__init__" "BadKind.__init__" sBadKind f fd) : FnOk P w K mg base CX0 1 f fd ["self", "kind"] (spI K ["kind"]) := by
  refine F.ok scBadKind (fun vs H Q E h => ?_) (fun cdv A outer s H vs Q E hr h => ?_)
  · obtain ⟨a, C, ws, rfl, hl, _⟩ := h
    exact congrArg Nat.succ hl
  · obtain ⟨a, C, ws, rfl, hl, T, no, ha, k⟩ := h
    match ws, hl with
    | [w0], _ =>
      refine ⟨_, (pss_one (ps_ost (pv 0) (pv 1))), ?_⟩
      refine ⟨_, rfl, _, rfl, a, C, rfl, T, no _ (by simp), Or.inl ⟨ha, fun dx hd hne => ?_⟩⟩
      have ea : (upd (upd H dx (exd dx [("kind", w0)])) a (exo a C (some dx))) a = some (exo a C (some dx)) := upd_same
      have ed : (upd (upd H dx (exd dx [("kind", w0)])) a (exo a C (some dx))) dx = some (exd dx [("kind", w0)]) := by rw [upd_ne hne, upd_same]
      have ek : ∀ b o, H b = some o → b ≠ a → (upd (upd H dx (exd dx [("kind", w0)])) a (exo a C (some dx))) b = some o := fun b o e hb => by rw [upd_ne hb, upd_ne (ne_of_none e hd)]; exact e
      exact k _ dx hd hne ea ed ek
def gBadKind {α : Type} : List α → List α
  | [k0] => [k0]
  | _ => []
theorem grBadKind {vs : List V} {us : List Value} (h : Vals vs us) : Vals (gBadKind vs) (gBadKind us) := by
  match vs, us, h with
  | [], [], .nil => exact .nil
  | [_], [_], .cons h0 .nil => exact .cons h0 .nil
  | _ :: _ :: _, _ :: _ :: _, .cons _ (.cons _ _) => exact .nil
theorem mkBadKind {C : Addr} (J : In1 K C "BadKind.__init__" sBadKind ["kind"]) : Mk1 P w K mg base C ["kind"] ["self", "kind"] ["kind"] gBadKind := by
  obtain ⟨f, fd, J1, F⟩ := J.ex
  refine ⟨⟨f, fd, J1, F.binds fun _ _ _ _ _ _ us hl => ?_, fun s u ws hl => ?_, okBadKind F⟩, J.no⟩
  · match us, hl with
    | [_, _], _ => rfl
  · obtain ⟨oc, od, kV, doc, pm, an, cdv, ct, osl, rfl, lk, hcd⟩ := F.ex
    match ws, hl with
    | [k0], _ => exact .of_eq rfl
theorem okBadField {f : Addr} {fd : FuncData} (F : Fun K "__init__" "BadField.__init__" sBadField f fd) : FnOk P w K mg base CX0 1 f fd ["self", "kind", "name"] (spI K ["kind", "name"]) := by
  refine F.ok scBadField (fun vs H Q E h => ?_) (fun cdv A outer s H vs Q E hr h => ?_)
  · obtain ⟨a, C, ws, rfl, hl, _⟩ := h
    exact congrArg Nat.succ hl
  · obtain ⟨a, C, ws, rfl, hl, T, no, ha, k⟩ := h
    match ws, hl with
    | [w0, w1], _ =>
      refine ⟨_, (pss_cons (ps_ost (pv 0) (pv 1)) (pss_one (ps_ost (pv 0) (pv 2)))), ?_⟩
      refine ⟨_, rfl, _, rfl, a, C, rfl, T, no _ (by simp), Or.inl ⟨ha, fun dx hd hne => ?_⟩⟩
      have ea : (upd (upd H dx (exd dx [("kind", w0)])) a (exo a C (some dx))) a = some (exo a C (some dx)) := upd_same
      have ed : (upd (upd H dx (exd dx [("kind", w0)])) a (exo a C (some dx))) dx = some (exd dx [("kind", w0)]) := by rw [upd_ne hne, upd_same]
      have ek : ∀ b o, H b = some o → b ≠ a → (upd (upd H dx (exd dx [("kind", w0)])) a (exo a C (some dx))) b = some o := fun b o e hb => by rw [upd_ne hb, upd_ne (ne_of_none e hd)]; exact e
      refine ⟨_, rfl, _, rfl, a, C, rfl, T, no _ (by simp), Or.inr ⟨dx, _, ea, ed, (by simp), ?_⟩⟩
      replace ea : (upd (upd (upd H dx (exd dx [("kind", w0)])) a (exo a C (some dx))) dx (exd dx [("name", w1), ("kind", w0)])) a = some (exo a C (some dx)) := by rw [upd_ne (Ne.symm hne)]; exact ea
      replace ek : ∀ b o, H b = some o → b ≠ a → (upd (upd (upd H dx (exd dx [("kind", w0)])) a (exo a C (some dx))) dx (exd dx [("name", w1), ("kind", w0)])) b = some o := fun b o e hb => by rw [upd_ne (ne_of_none e hd)]; exact ek b o e hb
      replace ed : (upd (upd (upd H dx (exd dx [("kind", w0)])) a (exo a C (some dx))) dx (exd dx [("name", w1), ("kind", w0)])) dx = some (exd dx [("name", w1), ("kind", w0)]) := upd_same
      exact k _ dx hd hne ea ed ek
def gBadField {α : Type} : List α → List α
  | [k0, k1] => [k1, k0]
  | _ => []
theorem grBadField {vs : List V} {us : List Value} (h : Vals vs us) : Vals (gBadField vs) (gBadField us) := by
  match vs, us, h with
  | [], [], .nil => exact .nil
  | [_], [_], .cons _ .nil => exact .nil
  | [_, _], [_, _], .cons h0 (.cons h1 .nil) => exact .cons h1 (.cons h0 .nil)
  | _ :: _ :: _ :: _, _ :: _ :: _ :: _, .cons _ (.cons _ (.cons _ _)) => exact .nil
theorem mkBadField {C : Addr} (J : In1 K C "BadField.__init__" sBadField ["kind", "name"]) : Mk1 P w K mg base C ["kind", "name"] ["self", "kind", "name"] ["name", "kind"] gBadField := by
  obtain ⟨f, fd, J1, F⟩ := J.ex
  refine ⟨⟨f, fd, J1, F.binds fun _ _ _ _ _ _ us hl => ?_, fun s u ws hl => ?_, okBadField F⟩, J.no⟩
  · match us, hl with
    | [_, _, _], _ => rfl
  · obtain ⟨oc, od, kV, doc, pm, an, cdv, ct, osl, rfl, lk, hcd⟩ := F.ex
    match ws, hl with
    | [k0, k1], _ => exact .of_eq rfl
theorem okBadMode {f : Addr} {fd : FuncData} (F : Fun K "__init__" "BadMode.__init__" sBadMode f fd) : FnOk P w K mg base CX0 1 f fd ["self", "mode"] (spI K ["mode"]) := by
  refine F.ok scBadMode (fun vs H Q E h => ?_) (fun cdv A outer s H vs Q E hr h => ?_)
  · obtain ⟨a, C, ws, rfl, hl, _⟩ := h
    exact congrArg Nat.succ hl
  · obtain ⟨a, C, ws, rfl, hl, T, no, ha, k⟩ := h
    match ws, hl with
    | [w0], _ =>
      refine ⟨_, (pss_one (ps_ost (pv 0) (pv 1))), ?_⟩
      refine ⟨_, rfl, _, rfl, a, C, rfl, T, no _ (by simp), Or.inl ⟨ha, fun dx hd hne => ?_⟩⟩
      have ea : (upd (upd H dx (exd dx [("mode", w0)])) a (exo a C (some dx))) a = some (exo a C (some dx)) := upd_same
      have ed : (upd (upd H dx (exd dx [("mode", w0)])) a (exo a C (some dx))) dx = some (exd dx [("mode", w0)]) := by rw [upd_ne hne, upd_same]
      have ek : ∀ b o, H b = some o → b ≠ a → (upd (upd H dx (exd dx [("mode", w0)])) a (exo a C (some dx))) b = some o := fun b o e hb => by rw [upd_ne hb, upd_ne (ne_of_none e hd)]; exact e
      exact k _ dx hd hne ea ed ek
def gBadMode {α : Type} : List α → List α
  | [k0] => [k0]
  | _ => []
theorem grBadMode {vs : List V} {us : List Value} (h : Vals vs us) : Vals (gBadMode vs) (gBadMode us) := by
  match vs, us, h with
  | [], [], .nil => exact .nil
  | [_], [_], .cons h0 .nil => exact .cons h0 .nil
  | _ :: _ :: _, _ :: _ :: _, .cons _ (.cons _ _) => exact .nil
theorem mkBadMode {C : Addr} (J : In1 K C "BadMode.__init__" sBadMode ["mode"]) : Mk1 P w K mg base C ["mode"] ["self", "mode"] ["mode"] gBadMode := by
  obtain ⟨f, fd, J1, F⟩ := J.ex
  refine ⟨⟨f, fd, J1, F.binds fun _ _ _ _ _ _ us hl => ?_, fun s u ws hl => ?_, okBadMode F⟩, J.no⟩
  · match us, hl with
    | [_, _], _ => rfl
  · obtain ⟨oc, od, kV, doc, pm, an, cdv, ct, osl, rfl, lk, hcd⟩ := F.ex
    match ws, hl with
    | [k0], _ => exact .of_eq rfl
theorem okBadText {f : Addr} {fd : FuncData} (F : Fun K "__init__" "BadText.__init__" sBadText f fd) : FnOk P w K mg base CX0 1 f fd ["self", "lineno", "col_offset"] (spI K ["lineno", "col_offset"]) := by
  refine F.ok scBadText (fun vs H Q E h => ?_) (fun cdv A outer s H vs Q E hr h => ?_)
  · obtain ⟨a, C, ws, rfl, hl, _⟩ := h
    exact congrArg Nat.succ hl
  · obtain ⟨a, C, ws, rfl, hl, T, no, ha, k⟩ := h
    match ws, hl with
    | [w0, w1], _ =>
      refine ⟨_, (pss_cons (ps_ost (pv 0) (pv 1)) (pss_one (ps_ost (pv 0) (pv 2)))), ?_⟩
      refine ⟨_, rfl, _, rfl, a, C, rfl, T, no _ (by simp), Or.inl ⟨ha, fun dx hd hne => ?_⟩⟩
      have ea : (upd (upd H dx (exd dx [("lineno", w0)])) a (exo a C (some dx))) a = some (exo a C (some dx)) := upd_same
      have ed : (upd (upd H dx (exd dx [("lineno", w0)])) a (exo a C (some dx))) dx = some (exd dx [("lineno", w0)]) := by rw [upd_ne hne, upd_same]
      have ek : ∀ b o, H b = some o → b ≠ a → (upd (upd H dx (exd dx [("lineno", w0)])) a (exo a C (some dx))) b = some o := fun b o e hb => by rw [upd_ne hb, upd_ne (ne_of_none e hd)]; exact e
      refine ⟨_, rfl, _, rfl, a, C, rfl, T, no _ (by simp), Or.inr ⟨dx, _, ea, ed, (by simp), ?_⟩⟩
      replace ea : (upd (upd (upd H dx (exd dx [("lineno", w0)])) a (exo a C (some dx))) dx (exd dx [("col_offset", w1), ("lineno", w0)])) a = some (exo a C (some dx)) := by rw [upd_ne (Ne.symm hne)]; exact ea
      replace ek : ∀ b o, H b = some o → b ≠ a → (upd (upd (upd H dx (exd dx [("lineno", w0)])) a (exo a C (some dx))) dx (exd dx [("col_offset", w1), ("lineno", w0)])) b = some o := fun b o e hb => by rw [upd_ne (ne_of_none e hd)]; exact ek b o e hb
      replace ed : (upd (upd (upd H dx (exd dx [("lineno", w0)])) a (exo a C (some dx))) dx (exd dx [("col_offset", w1), ("lineno", w0)])) dx = some (exd dx [("col_offset", w1), ("lineno", w0)]) := upd_same
      exact k _ dx hd hne ea ed ek
def gBadText {α : Type} : List α → List α
  | [k0, k1] => [k1, k0]
  | _ => []
theorem grBadText {vs : List V} {us : List Value} (h : Vals vs us) : Vals (gBadText vs) (gBadText us) := by
  match vs, us, h with
  | [], [], .nil => exact .nil
  | [_], [_], .cons _ .nil => exact .nil
  | [_, _], [_, _], .cons h0 (.cons h1 .nil) => exact .cons h1 (.cons h0 .nil)
  | _ :: _ :: _ :: _, _ :: _ :: _ :: _, .cons _ (.cons _ (.cons _ _)) => exact .nil
theorem mkBadText {C : Addr} (J : In1 K C "BadText.__init__" sBadText ["lineno", "col_offset"]) : Mk1 P w K mg base C ["lineno", "col_offset"] ["self", "lineno", "col_offset"] ["col_offset", "lineno"] gBadText := by
  obtain ⟨f, fd, J1, F⟩ := J.ex
  refine ⟨⟨f, fd, J1, F.binds fun _ _ _ _ _ _ us hl => ?_, fun s u ws hl => ?_, okBadText F⟩, J.no⟩
  · match us, hl with
    | [_, _, _], _ => rfl
  · obtain ⟨oc, od, kV, doc, pm, an, cdv, ct, osl, rfl, lk, hcd⟩ := F.ex
    match ws, hl with
    | [k0, k1], _ => exact .of_eq rfl
theorem okNoText {f : Addr} {fd : FuncData} (F : Fun K "__init__" "NoText.__init__" sNoText f fd) : FnOk P w K mg base CX0 1 f fd ["self", "path"] (spI K ["path"]) := by
  refine F.ok scNoText (fun vs H Q E h => ?_) (fun cdv A outer s H vs Q E hr h => ?_)
  · obtain ⟨a, C, ws, rfl, hl, _⟩ := h
    exact congrArg Nat.succ hl
  · obtain ⟨a, C, ws, rfl, hl, T, no, ha, k⟩ := h
    match ws, hl with
    | [w0], _ =>
      refine ⟨_, (pss_one (ps_ost (pv 0) (pv 1))), ?_⟩
      refine ⟨_, rfl, _, rfl, a, C, rfl, T, no _ (by simp), Or.inl ⟨ha, fun dx hd hne => ?_⟩⟩
      have ea : (upd (upd H dx (exd dx [("path", w0)])) a (exo a C (some dx))) a = some (exo a C (some dx)) := upd_same
      have ed : (upd (upd H dx (exd dx [("path", w0)])) a (exo a C (some dx))) dx = some (exd dx [("path", w0)]) := by rw [upd_ne hne, upd_same]
      have ek : ∀ b o, H b = some o → b ≠ a → (upd (upd H dx (exd dx [("path", w0)])) a (exo a C (some dx))) b = some o := fun b o e hb => by rw [upd_ne hb, upd_ne (ne_of_none e hd)]; exact e
      exact k _ dx hd hne ea ed ek
def gNoText {α : Type} : List α → List α
  | [k0] => [k0]
  | _ => []
theorem grNoText {vs : List V} {us : List Value} (h : Vals vs us) : Vals (gNoText vs) (gNoText us) := by
  match vs, us, h with
  | [], [], .nil => exact .nil
  | [_], [_], .cons h0 .nil => exact .cons h0 .nil
  | _ :: _ :: _, _ :: _ :: _, .cons _ (.cons _ _) => exact .nil
theorem mkNoText {C : Addr} (J : In1 K C "NoText.__init__" sNoText ["path"]) : Mk1 P w K mg base C ["path"] ["self", "path"] ["path"] gNoText := by
  obtain ⟨f, fd, J1, F⟩ := J.ex
  refine ⟨⟨f, fd, J1, F.binds fun _ _ _ _ _ _ us hl => ?_, fun s u ws hl => ?_, okNoText F⟩, J.no⟩
  · match us, hl with
    | [_, _], _ => rfl
  · obtain ⟨oc, od, kV, doc, pm, an, cdv, ct, osl, rfl, lk, hcd⟩ := F.ex
    match ws, hl with
    | [k0], _ => exact .of_eq rfl
theorem okBadChange {f : Addr} {fd : FuncData} (F : Fun K "__init__" "BadChange.__init__" sBadChange f fd) : FnOk P w K mg base CX0 1 f fd ["self", "kind", "name"] (spI K ["kind", "name"]) := by
  refine F.ok scBadChange (fun vs H Q E h => ?_) (fun cdv A outer s H vs Q E hr h => ?_)
  · obtain ⟨a, C, ws, rfl, hl, _⟩ := h
    exact congrArg Nat.succ hl
  · obtain ⟨a, C, ws, rfl, hl, T, no, ha, k⟩ := h
    match ws, hl with
    | [w0, w1], _ =>
      refine ⟨_, (pss_cons (ps_ost (pv 0) (pv 1)) (pss_one (ps_ost (pv 0) (pv 2)))), ?_⟩
      refine ⟨_, rfl, _, rfl, a, C, rfl, T, no _ (by simp), Or.inl ⟨ha, fun dx hd hne => ?_⟩⟩
      have ea : (upd (upd H dx (exd dx [("kind", w0)])) a (exo a C (some dx))) a = some (exo a C (some dx)) := upd_same
      have ed : (upd (upd H dx (exd dx [("kind", w0)])) a (exo a C (some dx))) dx = some (exd dx [("kind", w0)]) := by rw [upd_ne hne, upd_same]
      have ek : ∀ b o, H b = some o → b ≠ a → (upd (upd H dx (exd dx [("kind", w0)])) a (exo a C (some dx))) b = some o := fun b o e hb => by rw [upd_ne hb, upd_ne (ne_of_none e hd)]; exact e
      refine ⟨_, rfl, _, rfl, a, C, rfl, T, no _ (by simp), Or.inr ⟨dx, _, ea, ed, (by simp), ?_⟩⟩
      replace ea : (upd (upd (upd H dx (exd dx [("kind", w0)])) a (exo a C (some dx))) dx (exd dx [("name", w1), ("kind", w0)])) a = some (exo a C (some dx)) := by rw [upd_ne (Ne.symm hne)]; exact ea
      replace ek : ∀ b o, H b = some o → b ≠ a → (upd (upd (upd H dx (exd dx [("kind", w0)])) a (exo a C (some dx))) dx (exd dx [("name", w1), ("kind", w0)])) b = some o := fun b o e hb => by rw [upd_ne (ne_of_none e hd)]; exact ek b o e hb
      replace ed : (upd (upd (upd H dx (exd dx [("kind", w0)])) a (exo a C (some dx))) dx (exd dx [("name", w1), ("kind", w0)])) dx = some (exd dx [("name", w1), ("kind", w0)]) := upd_same
      exact k _ dx hd hne ea ed ek
def gBadChange {α : Type} : List α → List α
  | [k0, k1] => [k1, k0]
  | _ => []
theorem grBadChange {vs : List V} {us : List Value} (h : Vals vs us) : Vals (gBadChange vs) (gBadChange us) := by
  match vs, us, h with
  | [], [], .nil => exact .nil
  | [_], [_], .cons _ .nil => exact .nil
  | [_, _], [_, _], .cons h0 (.cons h1 .nil) => exact .cons h1 (.cons h0 .nil)
  | _ :: _ :: _ :: _, _ :: _ :: _ :: _, .cons _ (.cons _ (.cons _ _)) => exact .nil
theorem mkBadChange {C : Addr} (J : In1 K C "BadChange.__init__" sBadChange ["kind", "name"]) : Mk1 P w K mg base C ["kind", "name"] ["self", "kind", "name"] ["name", "kind"] gBadChange := by
  obtain ⟨f, fd, J1, F⟩ := J.ex
  refine ⟨⟨f, fd, J1, F.binds fun _ _ _ _ _ _ us hl => ?_, fun s u ws hl => ?_, okBadChange F⟩, J.no⟩
  · match us, hl with
    | [_, _, _], _ => rfl
  · obtain ⟨oc, od, kV, doc, pm, an, cdv, ct, osl, rfl, lk, hcd⟩ := F.ex
    match ws, hl with
    | [k0, k1], _ => exact .of_eq rfl
theorem okNotLiteral {f : Addr} {fd : FuncData} (F : Fun K "__init__" "NotLiteral.__init__" sNotLiteral f fd) : FnOk P w K mg base CX0 1 f fd ["self", "path"] (spI K ["path"]) := by
  refine F.ok scNotLiteral (fun vs H Q E h => ?_) (fun cdv A outer s H vs Q E hr h => ?_)
  · obtain ⟨a, C, ws, rfl, hl, _⟩ := h
    exact congrArg Nat.succ hl
  · obtain ⟨a, C, ws, rfl, hl, T, no, ha, k⟩ := h
    match ws, hl with
    | [w0], _ =>
      refine ⟨_, (pss_one (ps_ost (pv 0) (pv 1))), ?_⟩
      refine ⟨_, rfl, _, rfl, a, C, rfl, T, no _ (by simp), Or.inl ⟨ha, fun dx hd hne => ?_⟩⟩
      have ea : (upd (upd H dx (exd dx [("path", w0)])) a (exo a C (some dx))) a = some (exo a C (some dx)) := upd_same
      have ed : (upd (upd H dx (exd dx [("path", w0)])) a (exo a C (some dx))) dx = some (exd dx [("path", w0)]) := by rw [upd_ne hne, upd_same]
      have ek : ∀ b o, H b = some o → b ≠ a → (upd (upd H dx (exd dx [("path", w0)])) a (exo a C (some dx))) b = some o := fun b o e hb => by rw [upd_ne hb, upd_ne (ne_of_none e hd)]; exact e
      exact k _ dx hd hne ea ed ek
def gNotLiteral {α : Type} : List α → List α
  | [k0] => [k0]
  | _ => []
theorem grNotLiteral {vs : List V} {us : List Value} (h : Vals vs us) : Vals (gNotLiteral vs) (gNotLiteral us) := by
  match vs, us, h with
  | [], [], .nil => exact .nil
  | [_], [_], .cons h0 .nil => exact .cons h0 .nil
  | _ :: _ :: _, _ :: _ :: _, .cons _ (.cons _ _) => exact .nil
theorem mkNotLiteral {C : Addr} (J : In1 K C "NotLiteral.__init__" sNotLiteral ["path"]) : Mk1 P w K mg base C ["path"] ["self", "path"] ["path"] gNotLiteral := by
  obtain ⟨f, fd, J1, F⟩ := J.ex
  refine ⟨⟨f, fd, J1, F.binds fun _ _ _ _ _ _ us hl => ?_, fun s u ws hl => ?_, okNotLiteral F⟩, J.no⟩
  · match us, hl with
    | [_, _], _ => rfl
  · obtain ⟨oc, od, kV, doc, pm, an, cdv, ct, osl, rfl, lk, hcd⟩ := F.ex
    match ws, hl with
    | [k0], _ => exact .of_eq rfl
theorem okBadScope {f : Addr} {fd : FuncData} (F : Fun K "__init__" "BadScope.__init__" sBadScope f fd) : FnOk P w K mg base CX0 1 f fd ["self", "name", "lineno", "col_offset"] (spI K ["name", "lineno", "col_offset"]) := by
  refine F.ok scBadScope (fun vs H Q E h => ?_) (fun cdv A outer s H vs Q E hr h => ?_)
  · obtain ⟨a, C, ws, rfl, hl, _⟩ := h
    exact congrArg Nat.succ hl
  · obtain ⟨a, C, ws, rfl, hl, T, no, ha, k⟩ := h
    match ws, hl with
    | [w0, w1, w2], _ =>
      refine ⟨_, (pss_cons (ps_ost (pv 0) (pv 1)) (pss_cons (ps_ost (pv 0) (pv 2)) (pss_one (ps_ost (pv 0) (pv 3))))), ?_⟩
      refine ⟨_, rfl, _, rfl, a, C, rfl, T, no _ (by simp), Or.inl ⟨ha, fun dx hd hne => ?_⟩⟩
      have ea : (upd (upd H dx (exd dx [("name", w0)])) a (exo a C (some dx))) a = some (exo a C (some dx)) := upd_same
      have ed : (upd (upd H dx (exd dx [("name", w0)])) a (exo a C (some dx))) dx = some (exd dx [("name", w0)]) := by rw [upd_ne hne, upd_same]
      have ek : ∀ b o, H b = some o → b ≠ a → (upd (upd H dx (exd dx [("name", w0)])) a (exo a C (some dx))) b = some o := fun b o e hb => by rw [upd_ne hb, upd_ne (ne_of_none e hd)]; exact e
      refine ⟨_, rfl, _, rfl, a, C, rfl, T, no _ (by simp), Or.inr ⟨dx, _, ea, ed, (by simp), ?_⟩⟩
      replace ea : (upd (upd (upd H dx (exd dx [("name", w0)])) a (exo a C (some dx))) dx (exd dx [("lineno", w1), ("name", w0)])) a = some (exo a C (some dx)) := by rw [upd_ne (Ne.symm hne)]; exact ea
      replace ek : ∀ b o, H b = some o → b ≠ a → (upd (upd (upd H dx (exd dx [("name", w0)])) a (exo a C (some dx))) dx (exd dx [("lineno", w1), ("name", w0)])) b = some o := fun b o e hb => by rw [upd_ne (ne_of_none e hd)]; exact ek b o e hb
      replace ed : (upd (upd (upd H dx (exd dx [("name", w0)])) a (exo a C (some dx))) dx (exd dx [("lineno", w1), ("name", w0)])) dx = some (exd dx [("lineno", w1), ("name", w0)]) := upd_same
      refine ⟨_, rfl, _, rfl, a, C, rfl, T, no _ (by simp), Or.inr ⟨dx, _, ea, ed, (by simp), ?_⟩⟩
      replace ea : (upd (upd (upd (upd H dx (exd dx [("name", w0)])) a (exo a C (some dx))) dx (exd dx [("lineno", w1), ("name", w0)])) dx (exd dx [("col_offset", w2), ("lineno", w1), ("name", w0)])) a = some (exo a C (some dx)) := by rw [upd_ne (Ne.symm hne)]; exact ea
      replace ek : ∀ b o, H b = some o → b ≠ a → (upd (upd (upd (upd H dx (exd dx [("name", w0)])) a (exo a C (some dx))) dx (exd dx [("lineno", w1), ("name", w0)])) dx (exd dx [("col_offset", w2), ("lineno", w1), ("name", w0)])) b = some o := fun b o e hb => by rw [upd_ne (ne_of_none e hd)]; exact ek b o e hb
      replace ed : (upd (upd (upd (upd H dx (exd dx [("name", w0)])) a (exo a C (some dx))) dx (exd dx [("lineno", w1), ("name", w0)])) dx (exd dx [("col_offset", w2), ("lineno", w1), ("name", w0)])) dx = some (exd dx [("col_offset", w2), ("lineno", w1), ("name", w0)]) := upd_same
      exact k _ dx hd hne ea ed ek
def gBadScope {α : Type} : List α → List α
  | [k0, k1, k2] => [k1, k2, k0]
  | _ => []
theorem grBadScope {vs : List V} {us : List Value} (h : Vals vs us) : Vals (gBadScope vs) (gBadScope us) := by
  match vs, us, h with
  | [], [], .nil => exact .nil
  | [_], [_], .cons _ .nil => exact .nil
  | [_, _], [_, _], .cons _ (.cons _ .nil) => exact .nil
  | [_, _, _], [_, _, _], .cons h0 (.cons h1 (.cons h2 .nil)) => exact .cons h1 (.cons h2 (.cons h0 .nil))
  | _ :: _ :: _ :: _ :: _, _ :: _ :: _ :: _ :: _, .cons _ (.cons _ (.cons _ (.cons _ _))) => exact .nil
theorem mkBadScope {C : Addr} (J : In1 K C "BadScope.__init__" sBadScope ["name", "lineno", "col_offset"]) : Mk1 P w K mg base C ["name", "lineno", "col_offset"] ["self", "name", "lineno", "col_offset"] ["col_offset", "name", "lineno"] gBadScope := by
  obtain ⟨f, fd, J1, F⟩ := J.ex
  refine ⟨⟨f, fd, J1, F.binds fun _ _ _ _ _ _ us hl => ?_, fun s u ws hl => ?_, okBadScope F⟩, J.no⟩
  · match us, hl with
    | [_, _, _, _], _ => rfl
  · obtain ⟨oc, od, kV, doc, pm, an, cdv, ct, osl, rfl, lk, hcd⟩ := F.ex
    match ws, hl with
    | [k0, k1, k2], _ => exact .of_eq rfl
end

end K01


namespace K01
open PySem L2 Tq
structure Cls (P : Program) (w : World) (K : PySem.W.Frag) (mg : Str → Option Value) (base : Heap) (c : Nat → Addr) (TE : Addr) : Prop where
  b_isinstance : mg "isinstance" = none
  range : mg "range" = none
  b_list : mg "list" = none
  b_repr : mg "repr" = none
  b_ValueError : mg "ValueError" = none
  te : KT K mg TE
  k0 : Kl K mg "BadNode" (c 0) TE
  k1 : Kl K mg "BadPlace" (c 1) TE
  k2 : Kl K mg "BadFloat" (c 2) TE
  k3 : Kl K mg "BadKind" (c 3) TE
  k4 : Kl K mg "BadMode" (c 4) TE
  k5 : Kl K mg "NoText" (c 5) TE
  k6 : Kl K mg "NotLiteral" (c 6) TE
  k7 : Kl K mg "BadField" (c 7) TE
  k8 : Kl K mg "BadText" (c 8) TE
  k9 : Kl K mg "BadChange" (c 9) TE
  k10 : Kl K mg "BadScope" (c 10) TE
  q0 : PySem.W.excIn K (c 0) [.type "ValueError", .type "Exception", .type "BaseException", .type "object"] "ValueError.__new__" = true
  q1 : PySem.W.excIn K (c 1) [.type "ValueError", .type "Exception", .type "BaseException", .type "object"] "ValueError.__new__" = true
  q2 : PySem.W.excIn K (c 2) [.type "ValueError", .type "Exception", .type "BaseException", .type "object"] "ValueError.__new__" = true
  m3 : Mk1 P w K mg base (c 3) ["kind"] ["self", "kind"] ["kind"] gBadKind
  m4 : Mk1 P w K mg base (c 4) ["mode"] ["self", "mode"] ["mode"] gBadMode
  m5 : Mk1 P w K mg base (c 5) ["path"] ["self", "path"] ["path"] gNoText
  m6 : Mk1 P w K mg base (c 6) ["path"] ["self", "path"] ["path"] gNotLiteral
  m7 : Mk1 P w K mg base (c 7) ["kind", "name"] ["self", "kind", "name"] ["name", "kind"] gBadField
  m8 : Mk1 P w K mg base (c 8) ["lineno", "col_offset"] ["self", "lineno", "col_offset"] ["col_offset", "lineno"] gBadText
  m9 : Mk1 P w K mg base (c 9) ["kind", "name"] ["self", "kind", "name"] ["name", "kind"] gBadChange
  m10 : Mk1 P w K mg base (c 10) ["name", "lineno", "col_offset"] ["self", "name", "lineno", "col_offset"] ["col_offset", "name", "lineno"] gBadScope
def flds (v1 v2 v3 : V) : Nat → List (Str × V)
  | 3 => [("kind", v1)]
  | 4 => [("mode", v1)]
  | 5 => [("path", v1)]
  | 6 => [("path", v1)]
  | 7 => [("name", v2), ("kind", v1)]
  | 8 => [("col_offset", v2), ("lineno", v1)]
  | 9 => [("name", v2), ("kind", v1)]
  | 10 => [("col_offset", v3), ("lineno", v2), ("name", v1)]
  | _ => []
/-- what is due for the fields of the j-th error -/
def due {α : Type} (v1 v2 v3 : α) (j : Nat) : List α := if j < 3 then [] else if j < 7 then [v1] else if j < 10 then [v1, v2] else [v1, v2, v3]
def Errs (c : Nat → Addr) (H : Hp) (es : List V) (v1 v2 v3 : V) : Prop := es.length = 11 ∧ ∀ j v, es[j]? = some v → Er H (c j) v (flds v1 v2 v3 j)
theorem Errs.same {c : Nat → Addr} {H H' : Hp} {es : List V} {v1 v2 v3 : V} (h : Errs c H es v1 v2 v3) (s : Same H H') : Errs c H' es v1 v2 v3 := ⟨h.1, fun j v e => (h.2 j v e).same s⟩
def spMade (c : Nat → Addr) : Sp := fun vs H Q _ => ∃ v1 v2 v3, vs = [v1, v2, v3] ∧ ∀ (H' : Hp) (p : Addr) (es : List V), Same H H' → H p = none → H' p = some (.lst es) → Errs c H' es v1 v2 v3 → Q (.ref p) H'
theorem errs_of {c : Nat → Addr} {H : Hp} {v1 v2 v3 e0 e1 e2 e3 e4 e5 e6 e7 e8 e9 e10 : V} (h0 : Er H (c 0) e0 []) (h1 : Er H (c 1) e1 []) (h2 : Er H (c 2) e2 []) (h3 : Er H (c 3) e3 [("kind", v1)]) (h4 : Er H (c 4) e4 [("mode", v1)])
    (h5 : Er H (c 5) e5 [("path", v1)]) (h6 : Er H (c 6) e6 [("path", v1)]) (h7 : Er H (c 7) e7 [("name", v2), ("kind", v1)]) (h8 : Er H (c 8) e8 [("col_offset", v2), ("lineno", v1)]) (h9 : Er H (c 9) e9 [("name", v2), ("kind", v1)])
    (h10 : Er H (c 10) e10 [("col_offset", v3), ("lineno", v2), ("name", v1)]) : Errs c H [e0, e1, e2, e3, e4, e5, e6, e7, e8, e9, e10] v1 v2 v3 := by
  refine ⟨rfl, fun j v e => ?_⟩
  match j, e with
  | 0, e => cases e; exact h0
  | 1, e => cases e; exact h1
  | 2, e => cases e; exact h2
  | 3, e => cases e; exact h3
  | 4, e => cases e; exact h4
  | 5, e => cases e; exact h5
  | 6, e => cases e; exact h6
  | 7, e => cases e; exact h7
  | 8, e => cases e; exact h8
  | 9, e => cases e; exact h9
  | 10, e => cases e; exact h10
  | j + 11, e => simp at e
section
variable {P : Program} {w : World} {K : PySem.W.Frag} {mg : Str → Option Value} {base : Heap} {c : Nat → Addr} {TE : Addr}
theorem ok_made {f : Addr} {fd : FuncData} (F : Fun K "_law_made" "_law_made" s_law_made f fd) (T : Cls P w K mg base c TE) :
    FnG P w K mg base CX0 4 f fd ["_law_one", "_law_two", "_law_three"] (spMade c) := by
  refine okG0 F sc_law_made (fun vs H Q E h => ?_) (fun cdv A outer s H vs Q E hq hr h => ?_)
  · obtain ⟨v1, v2, v3, rfl, _⟩ := h
    rfl
  · obtain ⟨v1, v2, v3, rfl, k⟩ := h
    have hr2 : Room 2 _ := hr.mono (by decide)
    refine ⟨_, (pss_cons (ps_set (i := 3) sc_law_made.nd rfl (Or.inl rfl) (pe_lst (pa_cons (pe_er0 T.q0 T.k0.cl) (pa_cons (pe_er0 T.q1 T.k1.cl) (pa_cons (pe_er0 T.q2 T.k2.cl) (pa_cons (pe_er T.k3.cl T.m3 hr2 (pa_cons (pv 0) pa_nil)) (pa_cons (pe_er T.k4.cl T.m4 hr2 (pa_cons (pv 0) pa_nil)) (pa_cons (pe_er T.k5.cl T.m5 hr2 (pa_cons (pv 0) pa_nil)) (pa_cons (pe_er T.k6.cl T.m6 hr2 (pa_cons (pv 0) pa_nil)) pa_nil)))))))))
      (pss_cons (ps_set (i := 3) sc_law_made.nd rfl (Or.inl rfl) (pe_op op_cat (pv 3) (pe_lst (pa_cons (pe_er T.k7.cl T.m7 hr2 (pa_cons (pv 0) (pa_cons (pv 1) pa_nil))) (pa_cons (pe_er T.k8.cl T.m8 hr2 (pa_cons (pv 0) (pa_cons (pv 1) pa_nil))) (pa_cons (pe_er T.k9.cl T.m9 hr2 (pa_cons (pv 0) (pa_cons (pv 1) pa_nil))) (pa_cons (pe_er T.k10.cl T.m10 hr2 (pa_cons (pv 0) (pa_cons (pv 1) (pa_cons (pv 2) pa_nil)))) pa_nil)))))))
      (pss_one (ps_ret (pv 3))))), ?_⟩
    intro e0 H0 s0 h0 e1 H1 s1 h1 e2 H2 s2 h2
    refine ⟨_, rfl, rfl, (by simp), fun e3 H3 s3 h3 => ?_⟩
    refine ⟨_, rfl, rfl, (by simp), fun e4 H4 s4 h4 => ?_⟩
    refine ⟨_, rfl, rfl, (by simp), fun e5 H5 s5 h5 => ?_⟩
    refine ⟨_, rfl, rfl, (by simp), fun e6 H6 s6 h6 => ?_⟩
    refine ⟨(by show 7 ≤ sizeLine; decide), fun p hp => ?_⟩
    have t7 : Same H6 (upd H6 p (.lst [e0, e1, e2, e3, e4, e5, e6])) := fun b o e => by rw [upd_ne (ne_of_none e hp)]; exact e
    refine ⟨_, rfl, _, rfl, _, rfl, rfl, (by simp), fun e7 H7 s7 h7 => ?_⟩
    refine ⟨_, rfl, _, rfl, rfl, (by simp), fun e8 H8 s8 h8 => ?_⟩
    refine ⟨_, rfl, _, rfl, rfl, (by simp), fun e9 H9 s9 h9 => ?_⟩
    refine ⟨_, rfl, _, rfl, _, rfl, rfl, (by simp), fun e10 H10 s10 h10 => ?_⟩
    refine ⟨(by show 4 ≤ sizeLine; decide), fun q hq' => ?_⟩
    have tq : Same H10 (upd H10 q (.lst [e7, e8, e9, e10])) := fun b o e => by rw [upd_ne (ne_of_none e hq')]; exact e
    have up10 : Same (upd H6 p (.lst [e0, e1, e2, e3, e4, e5, e6])) H10 := ((s7.trans s8).trans s9).trans s10
    have hpq : upd H10 q (.lst [e7, e8, e9, e10]) p = some (.lst [e0, e1, e2, e3, e4, e5, e6]) := tq _ _ (up10 _ _ upd_same)
    refine ⟨p, q, _, _, rfl, rfl, hpq, upd_same, (by show 7 + 4 ≤ sizeLine; decide), fun r hr' => ?_⟩
    have tr : Same (upd H10 q (.lst [e7, e8, e9, e10])) (upd (upd H10 q (.lst [e7, e8, e9, e10])) r (.lst ([e0, e1, e2, e3, e4, e5, e6] ++ [e7, e8, e9, e10]))) := fun b o e => by rw [upd_ne (ne_of_none e hr')]; exact e
    have u10 := tq.trans tr
    have u9 := s10.trans u10
    have u8 := s9.trans u9
    have u7 := s8.trans u8
    have u6 := t7.trans (s7.trans u7)
    have u5 := s6.trans u6
    have u4 := s5.trans u5
    have u3 := s4.trans u4
    have u2 := s3.trans u3
    have u1 := s2.trans u2
    have u0 := s1.trans u1
    have all := s0.trans u0
    have low : Same H (upd H10 q (.lst [e7, e8, e9, e10])) := s0.trans (s1.trans (s2.trans (s3.trans (s4.trans (s5.trans (s6.trans (t7.trans (up10.trans tq))))))))
    exact ⟨_, rfl, k _ r _ all (low.free hr') upd_same
      (errs_of (h0.same u0) (h1.same u1) (h2.same u2) (h3.same u3) (h4.same u4) (h5.same u5) (h6.same u6) (h7.same u7) (h8.same u8) (h9.same u9) (h10.same u10))⟩
theorem ok_named {f : Addr} {fd : FuncData} (F : Fun K "_law_named" "_law_named" s_law_named f fd) (T : Cls P w K mg base c TE) :
    FnG P w K mg base CX0 4 f fd ["_law_one", "_law_two", "_law_three"] (spMade c) := by
  refine okG0 F sc_law_named (fun vs H Q E h => ?_) (fun cdv A outer s H vs Q E hq hr h => ?_)
  · obtain ⟨v1, v2, v3, rfl, _⟩ := h
    rfl
  · obtain ⟨v1, v2, v3, rfl, k⟩ := h
    have hr2 : Room 2 _ := hr.mono (by decide)
    refine ⟨_, (pss_cons (ps_set (i := 3) sc_law_named.nd rfl (Or.inl rfl) (pe_lst (pa_cons (pe_er0 T.q0 T.k0.cl) (pa_cons (pe_er0 T.q1 T.k1.cl) (pa_cons (pe_er0 T.q2 T.k2.cl) (pa_cons (pe_erK (gV := gBadKind) T.k3.cl T.m3 grBadKind hr2 (pk_cons (pv 0) pk_nil)) (pa_cons (pe_erK (gV := gBadMode) T.k4.cl T.m4 grBadMode hr2 (pk_cons (pv 0) pk_nil)) (pa_cons (pe_erK (gV := gNoText) T.k5.cl T.m5 grNoText hr2 (pk_cons (pv 0) pk_nil)) pa_nil))))))))
      (pss_cons (ps_set (i := 3) sc_law_named.nd rfl (Or.inl rfl) (pe_op op_cat (pv 3) (pe_lst (pa_cons (pe_erK (gV := gNotLiteral) T.k6.cl T.m6 grNotLiteral hr2 (pk_cons (pv 0) pk_nil)) (pa_cons (pe_erK (gV := gBadField) T.k7.cl T.m7 grBadField hr2 (pk_cons (pv 1) (pk_cons (pv 0) pk_nil))) (pa_cons (pe_erK (gV := gBadText) T.k8.cl T.m8 grBadText hr2 (pk_cons (pv 1) (pk_cons (pv 0) pk_nil))) pa_nil))))))
      (pss_one (ps_ret (pe_op op_cat (pv 3) (pe_lst (pa_cons (pe_erK (gV := gBadChange) T.k9.cl T.m9 grBadChange hr2 (pk_cons (pv 1) (pk_cons (pv 0) pk_nil))) (pa_cons (pe_erK (gV := gBadScope) T.k10.cl T.m10 grBadScope hr2 (pk_cons (pv 2) (pk_cons (pv 0) (pk_cons (pv 1) pk_nil)))) pa_nil)))))))), ?_⟩
    intro e0 H0 s0 h0 e1 H1 s1 h1 e2 H2 s2 h2
    refine ⟨_, rfl, rfl, (by simp), fun e3 H3 s3 h3 => ?_⟩
    refine ⟨_, rfl, rfl, (by simp), fun e4 H4 s4 h4 => ?_⟩
    refine ⟨_, rfl, rfl, (by simp), fun e5 H5 s5 h5 => ?_⟩
    refine ⟨(by show 6 ≤ sizeLine; decide), fun p hp => ?_⟩
    have t6 : Same H5 (upd H5 p (.lst [e0, e1, e2, e3, e4, e5])) := fun b o e => by rw [upd_ne (ne_of_none e hp)]; exact e
    refine ⟨_, rfl, _, rfl, rfl, (by simp), fun e6 H6 s6 h6 => ?_⟩
    refine ⟨_, rfl, _, rfl, rfl, (by simp), fun e7 H7 s7 h7 => ?_⟩
    refine ⟨_, rfl, _, rfl, rfl, (by simp), fun e8 H8 s8 h8 => ?_⟩
    refine ⟨(by show 3 ≤ sizeLine; decide), fun q hq' => ?_⟩
    have tq : Same H8 (upd H8 q (.lst [e6, e7, e8])) := fun b o e => by rw [upd_ne (ne_of_none e hq')]; exact e
    have up8 : Same (upd H5 p (.lst [e0, e1, e2, e3, e4, e5])) H8 := (s6.trans s7).trans s8
    have hpq : upd H8 q (.lst [e6, e7, e8]) p = some (.lst [e0, e1, e2, e3, e4, e5]) := tq _ _ (up8 _ _ upd_same)
    refine ⟨p, q, _, _, rfl, rfl, hpq, upd_same, (by show 6 + 3 ≤ sizeLine; decide), fun r hr' => ?_⟩
    have tr : Same (upd H8 q (.lst [e6, e7, e8])) (upd (upd H8 q (.lst [e6, e7, e8])) r (.lst ([e0, e1, e2, e3, e4, e5] ++ [e6, e7, e8]))) := fun b o e => by rw [upd_ne (ne_of_none e hr')]; exact e
    refine ⟨_, rfl, _, rfl, _, rfl, rfl, (by simp), fun e9 H9 s9 h9 => ?_⟩
    refine ⟨_, rfl, _, rfl, _, rfl, rfl, (by simp), fun e10 H10 s10 h10 => ?_⟩
    refine ⟨(by show 2 ≤ sizeLine; decide), fun u hu' => ?_⟩
    have tu : Same H10 (upd H10 u (.lst [e9, e10])) := fun b o e => by rw [upd_ne (ne_of_none e hu')]; exact e
    have up10 : Same (upd (upd H8 q (.lst [e6, e7, e8])) r (.lst ([e0, e1, e2, e3, e4, e5] ++ [e6, e7, e8]))) H10 := s9.trans s10
    have hru : upd H10 u (.lst [e9, e10]) r = some (.lst ([e0, e1, e2, e3, e4, e5] ++ [e6, e7, e8])) := tu _ _ (up10 _ _ upd_same)
    refine ⟨r, u, _, _, rfl, rfl, hru, upd_same, (by show 9 + 2 ≤ sizeLine; decide), fun z hz' => ?_⟩
    have tz : Same (upd H10 u (.lst [e9, e10])) (upd (upd H10 u (.lst [e9, e10])) z (.lst ([e0, e1, e2, e3, e4, e5] ++ [e6, e7, e8] ++ [e9, e10]))) := fun b o e => by rw [upd_ne (ne_of_none e hz')]; exact e
    have u10 := tu.trans tz
    have u9 := s10.trans u10
    have u8 := tq.trans (tr.trans (s9.trans u9))
    have u7 := s8.trans u8
    have u6 := s7.trans u7
    have u5 := t6.trans (s6.trans u6)
    have u4 := s5.trans u5
    have u3 := s4.trans u4
    have u2 := s3.trans u3
    have u1 := s2.trans u2
    have u0 := s1.trans u1
    have all := s0.trans u0
    have low : Same H (upd H10 u (.lst [e9, e10])) := s0.trans (s1.trans (s2.trans (s3.trans (s4.trans (s5.trans (t6.trans (up8.trans (tq.trans (tr.trans (up10.trans tu))))))))))
    exact k _ z _ all (low.free hz') upd_same
      (errs_of (h0.same u0) (h1.same u1) (h2.same u2) (h3.same u3) (h4.same u4) (h5.same u5) (h6.same u6) (h7.same u7) (h8.same u8) (h9.same u9) (h10.same u10))
/-- the fields of the j-th error, in a new list -/
def spFields (c : Nat → Addr) : Sp := fun vs H Q _ => ∃ (j : Nat) (e v1 v2 v3 : V), vs = [.int j, e] ∧ j < 11 ∧ Er H (c j) e (flds v1 v2 v3 j) ∧
  ∀ (H' : Hp) (p : Addr), Same H H' → H' p = some (.lst (due v1 v2 v3 j)) → Q (.ref p) H'
theorem Cls.xf (T : Cls P w K mg base c TE) {j : Nat} (h : j < 11) : XfC K (c j) := by
  match j, h with
  | 0, _ => exact T.k0.cl.xf
  | 1, _ => exact T.k1.cl.xf
  | 2, _ => exact T.k2.cl.xf
  | 3, _ => exact T.k3.cl.xf
  | 4, _ => exact T.k4.cl.xf
  | 5, _ => exact T.k5.cl.xf
  | 6, _ => exact T.k6.cl.xf
  | 7, _ => exact T.k7.cl.xf
  | 8, _ => exact T.k8.cl.xf
  | 9, _ => exact T.k9.cl.xf
  | 10, _ => exact T.k10.cl.xf
/-- a field of an error that has some -/
theorem er_get {H : Hp} {C : Addr} {e : V} {fs : List (Str × V)} (h : Er H C e fs) (hn : fs ≠ []) : ∃ (a dx : Addr), e = .ref a ∧ H a = some (exo a C (some dx)) ∧ H dx = some (exd dx fs) := by
  obtain ⟨a, d, rfl, h1, h2⟩ := h
  rcases h2 with ⟨_, h2⟩ | ⟨dx, rfl, h3⟩
  · exact absurd h2 hn
  · exact ⟨a, dx, rfl, h1, h3⟩
theorem ok_fields {f : Addr} {fd : FuncData} (F : Fun K "_law_fields" "_law_fields" s_law_fields f fd) (T : Cls P w K mg base c TE) :
    FnG P w K mg base CX0 1 f fd ["_law_k", "_law_e"] (spFields c) := by
  refine okG0 F sc_law_fields (fun vs H Q E h => ?_) (fun cdv A outer s H vs Q E hq hr h => ?_)
  · obtain ⟨j, e, v1, v2, v3, rfl, _⟩ := h
    rfl
  · obtain ⟨j, e, v1, v2, v3, rfl, hj, he, k⟩ := h
    refine ⟨_, (pss_cons (ps_if (pt_cmpR op_lt (pv 0) pe_int (nomark _))
      (pss_one (ps_ret (pe_lst pa_nil)))
      pss_nil)
      (pss_cons (ps_if (pt_cmpR op_lt (pv 0) pe_int (nomark _))
      (pss_one (ps_ret (pe_ifExp (pt_cmpR op_eq (pv 0) pe_int (nomark _)) (pe_lst (pa_cons (pe_xfl (pv 1) rfl) pa_nil)) (pe_lst (pa_cons (pe_xfl (pv 1) rfl) pa_nil)))))
      pss_nil)
      (pss_cons (ps_if (pt_cmpR op_lt (pv 0) pe_int (nomark _))
      (pss_one (ps_ret (pe_lst (pa_cons (pe_xfl (pv 1) rfl) pa_nil))))
      pss_nil)
      (pss_cons (ps_if (pt_cmpR op_in_seq (pv 0) (pe_tup (pa_cons pe_int (pa_cons pe_int pa_nil))) (by rfl))
      (pss_one (ps_ret (pe_lst (pa_cons (pe_xfl (pv 1) rfl) (pa_cons (pe_xfl (pv 1) rfl) pa_nil)))))
      pss_nil)
      (pss_one (ps_ret (pe_ifExp (pt_cmpR op_eq (pv 0) pe_int (nomark _)) (pe_lst (pa_cons (pe_xfl (pv 1) rfl) (pa_cons (pe_xfl (pv 1) rfl) pa_nil))) (pe_lst (pa_cons (pe_xfl (pv 1) rfl) (pa_cons (pe_xfl (pv 1) rfl) (pa_cons (pe_xfl (pv 1) rfl) pa_nil))))))))))), ?_⟩
    match j, hj, he, k with
    | 0, _, he, k =>
      refine ⟨_, rfl, _, _, rfl, rfl, _, rfl, if1 (by decide) ?_⟩
      refine ⟨(by show 0 ≤ sizeLine; decide), fun p hp => k _ p (fun b o e => by rw [upd_ne (ne_of_none e hp)]; exact e) upd_same⟩
    | 1, _, he, k =>
      refine ⟨_, rfl, _, _, rfl, rfl, _, rfl, if1 (by decide) ?_⟩
      refine ⟨(by show 0 ≤ sizeLine; decide), fun p hp => k _ p (fun b o e => by rw [upd_ne (ne_of_none e hp)]; exact e) upd_same⟩
    | 2, _, he, k =>
      refine ⟨_, rfl, _, _, rfl, rfl, _, rfl, if1 (by decide) ?_⟩
      refine ⟨(by show 0 ≤ sizeLine; decide), fun p hp => k _ p (fun b o e => by rw [upd_ne (ne_of_none e hp)]; exact e) upd_same⟩
    | 3, _, he, k =>
      obtain ⟨a, dx, rfl, h1, h2⟩ := er_get he (by intro z; cases z)
      refine ⟨_, rfl, _, _, rfl, rfl, _, rfl, if0 (by decide) ?_⟩
      refine ⟨_, rfl, _, _, rfl, rfl, _, rfl, if1 (by decide) ?_⟩
      refine ⟨_, rfl, rfl, _, rfl, if1 (by decide) ?_⟩
      refine ⟨_, rfl, a, _, dx, _, _, rfl, h1, h2, T.xf (by decide), T.m3.no _ (by simp), rfl, (by show 1 ≤ sizeLine; decide), fun p hp => k _ p (fun b o e => by rw [upd_ne (ne_of_none e hp)]; exact e) upd_same⟩
    | 4, _, he, k =>
      obtain ⟨a, dx, rfl, h1, h2⟩ := er_get he (by intro z; cases z)
      refine ⟨_, rfl, _, _, rfl, rfl, _, rfl, if0 (by decide) ?_⟩
      refine ⟨_, rfl, _, _, rfl, rfl, _, rfl, if1 (by decide) ?_⟩
      refine ⟨_, rfl, rfl, _, rfl, if0 (by decide) ?_⟩
      refine ⟨_, rfl, a, _, dx, _, _, rfl, h1, h2, T.xf (by decide), T.m4.no _ (by simp), rfl, (by show 1 ≤ sizeLine; decide), fun p hp => k _ p (fun b o e => by rw [upd_ne (ne_of_none e hp)]; exact e) upd_same⟩
    | 5, _, he, k =>
      obtain ⟨a, dx, rfl, h1, h2⟩ := er_get he (by intro z; cases z)
      refine ⟨_, rfl, _, _, rfl, rfl, _, rfl, if0 (by decide) ?_⟩
      refine ⟨_, rfl, _, _, rfl, rfl, _, rfl, if0 (by decide) ?_⟩
      refine ⟨_, rfl, _, _, rfl, rfl, _, rfl, if1 (by decide) ?_⟩
      refine ⟨_, rfl, a, _, dx, _, _, rfl, h1, h2, T.xf (by decide), T.m5.no _ (by simp), rfl, (by show 1 ≤ sizeLine; decide), fun p hp => k _ p (fun b o e => by rw [upd_ne (ne_of_none e hp)]; exact e) upd_same⟩
    | 6, _, he, k =>
      obtain ⟨a, dx, rfl, h1, h2⟩ := er_get he (by intro z; cases z)
      refine ⟨_, rfl, _, _, rfl, rfl, _, rfl, if0 (by decide) ?_⟩
      refine ⟨_, rfl, _, _, rfl, rfl, _, rfl, if0 (by decide) ?_⟩
      refine ⟨_, rfl, _, _, rfl, rfl, _, rfl, if1 (by decide) ?_⟩
      refine ⟨_, rfl, a, _, dx, _, _, rfl, h1, h2, T.xf (by decide), T.m6.no _ (by simp), rfl, (by show 1 ≤ sizeLine; decide), fun p hp => k _ p (fun b o e => by rw [upd_ne (ne_of_none e hp)]; exact e) upd_same⟩
    | 7, _, he, k =>
      obtain ⟨a, dx, rfl, h1, h2⟩ := er_get he (by intro z; cases z)
      refine ⟨_, rfl, _, _, rfl, rfl, _, rfl, if0 (by decide) ?_⟩
      refine ⟨_, rfl, _, _, rfl, rfl, _, rfl, if0 (by decide) ?_⟩
      refine ⟨_, rfl, _, _, rfl, rfl, _, rfl, if0 (by decide) ?_⟩
      refine ⟨_, rfl, (by show 2 ≤ sizeLine; decide), fun t ht => ⟨t, _, rfl, .inr (SqT.of upd_same), rfl, rfl, _, rfl, if1 (by decide) ?_⟩⟩
      have st : Same H (upd H t (.tup [.int 7, .int 9])) := fun b o e => by rw [upd_ne (ne_of_none e ht)]; exact e
      replace h1 := st _ _ h1
      replace h2 := st _ _ h2
      refine ⟨_, rfl, a, _, dx, _, _, rfl, h1, h2, T.xf (by decide), T.m7.no _ (by simp), rfl, _, rfl, a, _, dx, _, _, rfl, h1, h2, T.xf (by decide), T.m7.no _ (by simp), rfl, (by show 2 ≤ sizeLine; decide), fun p hp => k _ p (st.trans fun b o e => by rw [upd_ne (ne_of_none e hp)]; exact e) upd_same⟩
    | 8, _, he, k =>
      obtain ⟨a, dx, rfl, h1, h2⟩ := er_get he (by intro z; cases z)
      refine ⟨_, rfl, _, _, rfl, rfl, _, rfl, if0 (by decide) ?_⟩
      refine ⟨_, rfl, _, _, rfl, rfl, _, rfl, if0 (by decide) ?_⟩
      refine ⟨_, rfl, _, _, rfl, rfl, _, rfl, if0 (by decide) ?_⟩
      refine ⟨_, rfl, (by show 2 ≤ sizeLine; decide), fun t ht => ⟨t, _, rfl, .inr (SqT.of upd_same), rfl, rfl, _, rfl, if0 (by decide) ?_⟩⟩
      have st : Same H (upd H t (.tup [.int 7, .int 9])) := fun b o e => by rw [upd_ne (ne_of_none e ht)]; exact e
      replace h1 := st _ _ h1
      replace h2 := st _ _ h2
      refine ⟨_, rfl, rfl, _, rfl, if1 (by decide) ?_⟩
      refine ⟨_, rfl, a, _, dx, _, _, rfl, h1, h2, T.xf (by decide), T.m8.no _ (by simp), rfl, _, rfl, a, _, dx, _, _, rfl, h1, h2, T.xf (by decide), T.m8.no _ (by simp), rfl, (by show 2 ≤ sizeLine; decide), fun p hp => k _ p (st.trans fun b o e => by rw [upd_ne (ne_of_none e hp)]; exact e) upd_same⟩
    | 9, _, he, k =>
      obtain ⟨a, dx, rfl, h1, h2⟩ := er_get he (by intro z; cases z)
      refine ⟨_, rfl, _, _, rfl, rfl, _, rfl, if0 (by decide) ?_⟩
      refine ⟨_, rfl, _, _, rfl, rfl, _, rfl, if0 (by decide) ?_⟩
      refine ⟨_, rfl, _, _, rfl, rfl, _, rfl, if0 (by decide) ?_⟩
      refine ⟨_, rfl, (by show 2 ≤ sizeLine; decide), fun t ht => ⟨t, _, rfl, .inr (SqT.of upd_same), rfl, rfl, _, rfl, if1 (by decide) ?_⟩⟩
      have st : Same H (upd H t (.tup [.int 7, .int 9])) := fun b o e => by rw [upd_ne (ne_of_none e ht)]; exact e
      replace h1 := st _ _ h1
      replace h2 := st _ _ h2
      refine ⟨_, rfl, a, _, dx, _, _, rfl, h1, h2, T.xf (by decide), T.m9.no _ (by simp), rfl, _, rfl, a, _, dx, _, _, rfl, h1, h2, T.xf (by decide), T.m9.no _ (by simp), rfl, (by show 2 ≤ sizeLine; decide), fun p hp => k _ p (st.trans fun b o e => by rw [upd_ne (ne_of_none e hp)]; exact e) upd_same⟩
    | 10, _, he, k =>
      obtain ⟨a, dx, rfl, h1, h2⟩ := er_get he (by intro z; cases z)
      refine ⟨_, rfl, _, _, rfl, rfl, _, rfl, if0 (by decide) ?_⟩
      refine ⟨_, rfl, _, _, rfl, rfl, _, rfl, if0 (by decide) ?_⟩
      refine ⟨_, rfl, _, _, rfl, rfl, _, rfl, if0 (by decide) ?_⟩
      refine ⟨_, rfl, (by show 2 ≤ sizeLine; decide), fun t ht => ⟨t, _, rfl, .inr (SqT.of upd_same), rfl, rfl, _, rfl, if0 (by decide) ?_⟩⟩
      have st : Same H (upd H t (.tup [.int 7, .int 9])) := fun b o e => by rw [upd_ne (ne_of_none e ht)]; exact e
      replace h1 := st _ _ h1
      replace h2 := st _ _ h2
      refine ⟨_, rfl, rfl, _, rfl, if0 (by decide) ?_⟩
      refine ⟨_, rfl, a, _, dx, _, _, rfl, h1, h2, T.xf (by decide), T.m10.no _ (by simp), rfl, _, rfl, a, _, dx, _, _, rfl, h1, h2, T.xf (by decide), T.m10.no _ (by simp), rfl, _, rfl, a, _, dx, _, _, rfl, h1, h2, T.xf (by decide), T.m10.no _ (by simp), rfl, (by show 3 ≤ sizeLine; decide), fun p hp => k _ p (st.trans fun b o e => by rw [upd_ne (ne_of_none e hp)]; exact e) upd_same⟩
def nameOf : Nat → Str
  | 0 => "BadNode" | 1 => "BadPlace" | 2 => "BadFloat" | 3 => "BadKind" | 4 => "BadMode" | 5 => "NoText" | 6 => "NotLiteral" | 7 => "BadField" | 8 => "BadText" | 9 => "BadChange" | _ => "BadScope"
theorem Cls.kl (T : Cls P w K mg base c TE) {j : Nat} (h : j < 11) : Kl K mg (nameOf j) (c j) TE := by
  match j, h with
  | 0, _ => exact T.k0
  | 1, _ => exact T.k1
  | 2, _ => exact T.k2
  | 3, _ => exact T.k3
  | 4, _ => exact T.k4
  | 5, _ => exact T.k5
  | 6, _ => exact T.k6
  | 7, _ => exact T.k7
  | 8, _ => exact T.k8
  | 9, _ => exact T.k9
  | 10, _ => exact T.k10
theorem names_ne : ∀ j i : Fin 11, j ≠ i → nameOf j ≠ nameOf i := by decide +kernel
theorem names_te : ∀ j : Fin 11, nameOf j ≠ "TreeError" := by decide +kernel
theorem Cls.kit (T : Cls P w K mg base c TE) {j i : Nat} (hj : j < 11) (hi : i < 11) : PySem.W.kitOne K (.ref (c j)) (.ref (c i)) = some (decide (j = i)) := by
  by_cases e : j = i
  · subst e
    rw [decide_eq_true rfl]
    exact (T.kl hj).kit_own
  · rw [decide_eq_false e]
    exact (T.kl hj).kit_other (T.kl hi) (names_ne ⟨j, hj⟩ ⟨i, hi⟩ fun z => e (congrArg Fin.val z)) ((T.kl hi).ne_te T.te (names_te ⟨i, hi⟩))
theorem er_is {H : Hp} {C : Addr} {e : V} {fs : List (Str × V)} (h : Er H C e fs) : ∃ (a : Addr) (d : Option Addr), e = .ref a ∧ H a = some (exo a C d) ∧ ∀ dx, d = some dx → ∃ fs, H dx = some (exd dx fs) := by
  obtain ⟨a, d, rfl, h1, h2⟩ := h
  refine ⟨a, d, rfl, h1, fun dx e => ?_⟩
  rcases h2 with ⟨rfl, _⟩ | ⟨dx', rfl, h3⟩
  · cases e
  · cases e
    exact ⟨fs, h3⟩
/-- the numbers of the classes of the j-th error: j alone -/
def spKinds (c : Nat → Addr) : Sp := fun vs H Q _ => ∃ (j : Nat) (e : V) (fs : List (Str × V)), vs = [e] ∧ j < 11 ∧ Er H (c j) e fs ∧
  ∀ (H' : Hp) (p : Addr), Same H H' → H' p = some (.lst [.int j]) → Q (.ref p) H'
theorem ok_kinds {f : Addr} {fd : FuncData} (F : Fun K "_law_kinds" "_law_kinds" s_law_kinds f fd) (T : Cls P w K mg base c TE) :
    FnG P w K mg base CX0 1 f fd ["_law_e"] (spKinds c) := by
  refine okG0 F sc_law_kinds (fun vs H Q E h => ?_) (fun cdv A outer s H vs Q E hq hr h => ?_)
  · obtain ⟨j, e, fs, rfl, _⟩ := h
    rfl
  · obtain ⟨j, e, fs, rfl, hj, he, k⟩ := h
    refine ⟨_, (pss_cons (ps_set (i := 1) sc_law_kinds.nd rfl (Or.inr rfl) (pe_lst (pa_cons (pe_callB call_isX (by rfl) T.b_isinstance (by decide +kernel) (pa_cons (pv 0) (pa_cons (pe_glob (v := .ref (c 0)) rfl T.k0.g rfl) pa_nil))) (pa_cons (pe_callB call_isX (by rfl) T.b_isinstance (by decide +kernel) (pa_cons (pv 0) (pa_cons (pe_glob (v := .ref (c 1)) rfl T.k1.g rfl) pa_nil))) (pa_cons (pe_callB call_isX (by rfl) T.b_isinstance (by decide +kernel) (pa_cons (pv 0) (pa_cons (pe_glob (v := .ref (c 2)) rfl T.k2.g rfl) pa_nil))) (pa_cons (pe_callB call_isX (by rfl) T.b_isinstance (by decide +kernel) (pa_cons (pv 0) (pa_cons (pe_glob (v := .ref (c 3)) rfl T.k3.g rfl) pa_nil))) pa_nil))))))
      (pss_cons (ps_set (i := 1) sc_law_kinds.nd rfl (Or.inr rfl) (pe_op op_cat (pv 1) (pe_lst (pa_cons (pe_callB call_isX (by rfl) T.b_isinstance (by decide +kernel) (pa_cons (pv 0) (pa_cons (pe_glob (v := .ref (c 4)) rfl T.k4.g rfl) pa_nil))) (pa_cons (pe_callB call_isX (by rfl) T.b_isinstance (by decide +kernel) (pa_cons (pv 0) (pa_cons (pe_glob (v := .ref (c 5)) rfl T.k5.g rfl) pa_nil))) (pa_cons (pe_callB call_isX (by rfl) T.b_isinstance (by decide +kernel) (pa_cons (pv 0) (pa_cons (pe_glob (v := .ref (c 6)) rfl T.k6.g rfl) pa_nil))) (pa_cons (pe_callB call_isX (by rfl) T.b_isinstance (by decide +kernel) (pa_cons (pv 0) (pa_cons (pe_glob (v := .ref (c 7)) rfl T.k7.g rfl) pa_nil))) pa_nil)))))))
      (pss_cons (ps_set (i := 1) sc_law_kinds.nd rfl (Or.inr rfl) (pe_op op_cat (pv 1) (pe_lst (pa_cons (pe_callB call_isX (by rfl) T.b_isinstance (by decide +kernel) (pa_cons (pv 0) (pa_cons (pe_glob (v := .ref (c 8)) rfl T.k8.g rfl) pa_nil))) (pa_cons (pe_callB call_isX (by rfl) T.b_isinstance (by decide +kernel) (pa_cons (pv 0) (pa_cons (pe_glob (v := .ref (c 9)) rfl T.k9.g rfl) pa_nil))) (pa_cons (pe_callB call_isX (by rfl) T.b_isinstance (by decide +kernel) (pa_cons (pv 0) (pa_cons (pe_glob (v := .ref (c 10)) rfl T.k10.g rfl) pa_nil))) pa_nil))))))
      (pss_one (ps_ret (pe_lc (own := [("_law_k", 2)]) (by rfl) sc_law_kinds.nd (pi_range1 rfl T.range (pa_cons pe_int pa_nil)) (blkOk_by (own := [("_law_k", 2)]) (N := N_law_kinds) (sc := defScope s_law_kinds) (by decide +kernel)) (fun _ _ _ _ _ => (pg_name (i := 2) sc_law_kinds.nd rfl (Or.inl rfl))) (fun _ _ _ _ _ => (pts_one (pt_val (pe_ix (castIx (K := K) (r := rIxL) ix_list) (pv 1) (pv 2) (fun _ _ => rfl))))) (fun _ _ _ _ _ => (pv 2)))))))), ?_⟩
    obtain ⟨a, d, rfl, ha, hd⟩ := er_is he
    have X := (T.kl hj).ec
    have one : ∀ {H' : Hp}, Same H H' → H' a = some (exo a (c j) d) ∧ ∀ dx, d = some dx → ∃ fs, H' dx = some (exd dx fs) := fun s => ⟨s _ _ ha, fun dx e => let ⟨fs, h⟩ := hd dx e; ⟨fs, s _ _ h⟩⟩
    refine ⟨_, rfl, a, _, d, _, _, _, rfl, ha, hd, X, .own _, T.kit hj (show 0 < 11 by decide), ?_⟩
    refine ⟨_, rfl, a, _, d, _, _, _, rfl, ha, hd, X, .own _, T.kit hj (show 1 < 11 by decide), ?_⟩
    refine ⟨_, rfl, a, _, d, _, _, _, rfl, ha, hd, X, .own _, T.kit hj (show 2 < 11 by decide), ?_⟩
    refine ⟨_, rfl, a, _, d, _, _, _, rfl, ha, hd, X, .own _, T.kit hj (show 3 < 11 by decide), ?_⟩
    refine ⟨(by show 4 ≤ sizeLine; decide), fun p hp => ?_⟩
    obtain ⟨H1, e1⟩ : ∃ H1, H1 = upd H p (.lst [.bl (decide (j = 0)), .bl (decide (j = 1)), .bl (decide (j = 2)), .bl (decide (j = 3))]) := ⟨_, rfl⟩
    have s1 : Same H H1 := fun b o e => by rw [e1, upd_ne (ne_of_none e hp)]; exact e
    have p1 : H1 p = some (.lst [.bl (decide (j = 0)), .bl (decide (j = 1)), .bl (decide (j = 2)), .bl (decide (j = 3))]) := by rw [e1]; exact upd_same
    rw [← e1]
    obtain ⟨ha1, hd1⟩ := one s1
    refine ⟨_, rfl, _, rfl, a, _, d, _, _, _, rfl, ha1, hd1, X, .own _, T.kit hj (show 4 < 11 by decide), ?_⟩
    refine ⟨_, rfl, a, _, d, _, _, _, rfl, ha1, hd1, X, .own _, T.kit hj (show 5 < 11 by decide), ?_⟩
    refine ⟨_, rfl, a, _, d, _, _, _, rfl, ha1, hd1, X, .own _, T.kit hj (show 6 < 11 by decide), ?_⟩
    refine ⟨_, rfl, a, _, d, _, _, _, rfl, ha1, hd1, X, .own _, T.kit hj (show 7 < 11 by decide), ?_⟩
    refine ⟨(by show 4 ≤ sizeLine; decide), fun q hq' => ?_⟩
    obtain ⟨H2, e2⟩ : ∃ H2, H2 = upd H1 q (.lst [.bl (decide (j = 4)), .bl (decide (j = 5)), .bl (decide (j = 6)), .bl (decide (j = 7))]) := ⟨_, rfl⟩
    have s2 : Same H1 H2 := fun b o e => by rw [e2, upd_ne (ne_of_none e hq')]; exact e
    have q2 : H2 q = some (.lst [.bl (decide (j = 4)), .bl (decide (j = 5)), .bl (decide (j = 6)), .bl (decide (j = 7))]) := by rw [e2]; exact upd_same
    rw [← e2]
    refine ⟨p, q, _, _, rfl, rfl, s2 _ _ p1, q2, (by show 4 + 4 ≤ sizeLine; decide), fun r hr' => ?_⟩
    obtain ⟨H3, e3⟩ : ∃ H3, H3 = upd H2 r (.lst ([.bl (decide (j = 0)), .bl (decide (j = 1)), .bl (decide (j = 2)), .bl (decide (j = 3))] ++ [.bl (decide (j = 4)), .bl (decide (j = 5)), .bl (decide (j = 6)), .bl (decide (j = 7))])) := ⟨_, rfl⟩
    have s3 : Same H2 H3 := fun b o e => by rw [e3, upd_ne (ne_of_none e hr')]; exact e
    have r3 : H3 r = some (.lst ([.bl (decide (j = 0)), .bl (decide (j = 1)), .bl (decide (j = 2)), .bl (decide (j = 3))] ++ [.bl (decide (j = 4)), .bl (decide (j = 5)), .bl (decide (j = 6)), .bl (decide (j = 7))])) := by rw [e3]; exact upd_same
    rw [← e3]
    obtain ⟨ha3, hd3⟩ := one (s1.trans (s2.trans s3))
    refine ⟨_, rfl, _, rfl, a, _, d, _, _, _, rfl, ha3, hd3, X, .own _, T.kit hj (show 8 < 11 by decide), ?_⟩
    refine ⟨_, rfl, a, _, d, _, _, _, rfl, ha3, hd3, X, .own _, T.kit hj (show 9 < 11 by decide), ?_⟩
    refine ⟨_, rfl, a, _, d, _, _, _, rfl, ha3, hd3, X, .own _, T.kit hj (show 10 < 11 by decide), ?_⟩
    refine ⟨(by show 3 ≤ sizeLine; decide), fun t ht => ?_⟩
    obtain ⟨H4, e4⟩ : ∃ H4, H4 = upd H3 t (.lst [.bl (decide (j = 8)), .bl (decide (j = 9)), .bl (decide (j = 10))]) := ⟨_, rfl⟩
    have s4 : Same H3 H4 := fun b o e => by rw [e4, upd_ne (ne_of_none e ht)]; exact e
    have t4 : H4 t = some (.lst [.bl (decide (j = 8)), .bl (decide (j = 9)), .bl (decide (j = 10))]) := by rw [e4]; exact upd_same
    rw [← e4]
    refine ⟨r, t, _, _, rfl, rfl, s4 _ _ r3, t4, (by show 8 + 3 ≤ sizeLine; decide), fun u hu' => ?_⟩
    obtain ⟨H5, e5⟩ : ∃ H5, H5 = upd H4 u (.lst ([.bl (decide (j = 0)), .bl (decide (j = 1)), .bl (decide (j = 2)), .bl (decide (j = 3))] ++ [.bl (decide (j = 4)), .bl (decide (j = 5)), .bl (decide (j = 6)), .bl (decide (j = 7))] ++ [.bl (decide (j = 8)), .bl (decide (j = 9)), .bl (decide (j = 10))])) := ⟨_, rfl⟩
    have s5 : Same H4 H5 := fun b o e => by rw [e5, upd_ne (ne_of_none e hu')]; exact e
    have u5 : H5 u = some (.lst ((List.range 11).map fun i => .bl (decide (j = i)))) := by rw [e5, upd_same]; rfl
    have all := s1.trans (s2.trans (s3.trans (s4.trans s5)))
    rw [← e5]
    refine ⟨11, rfl, by decide, by decide, fun D hD => ?_⟩
    have nu : u ≠ D := ne_of_none u5 hD
    refine lc_range (lo := 0) (n := 11) (fun i H' => Same H H' ∧ H' u = some (.lst ((List.range 11).map fun i => .bl (decide (j = i)))) ∧ H' D = some (.lst (if j < i then [.int j] else []))) ?_ ?_ ?_
    · refine ⟨fun b o e => ?_, ?_, ?_⟩
      · rw [upd_ne (ne_of_none (all b o e) hD)]
        exact all b o e
      · rw [upd_ne nu]
        exact u5
      · rw [upd_same, if_neg (Nat.not_lt_zero _)]
    · rintro i H' hi ⟨sH, hu, hDD⟩
      refine ⟨rfl, _, rfl, _, rfl, u, _, _, _, rfl, rfl, SqL.of hu, at_of (j := i) (v := .bl (decide (j = i))) (by omega) (by simp [hi]), _, rfl, ?_⟩
      have nD : ∀ {b : Addr} {o : HO}, H b = some o → b ≠ D := fun {b o} e => ne_of_none (all b o e) hD
      by_cases e : j = i
      · refine if1 (decide_eq_true e) ?_
        refine ⟨_, rfl, _, hDD, ?_, ?_, ?_, ?_⟩
        · split <;> (rw [sizeLine_eq]; simp)
        · intro b o eb
          rw [upd_ne (nD eb)]
          exact sH b o eb
        · rw [upd_ne nu]
          exact hu
        · rw [upd_same, if_neg (by omega), if_pos (by omega), e]
          simp
      · refine if0 (decide_eq_false e) ?_
        refine ⟨sH, hu, ?_⟩
        rw [hDD]
        by_cases h : j < i
        · rw [if_pos h, if_pos (by omega)]
        · rw [if_neg h, if_neg (by omega)]
    · rintro H' ⟨sH, hu, hDD⟩
      rw [if_pos hj] at hDD
      exact k _ D sH hDD
end
end K01


namespace K01
open PySem L2 Tq
section
variable {P : Program} {w : World} {K : PySem.W.Frag} {mg : Str → Option Value} {base : Heap}
theorem ok_pick {f : Addr} {fd : FuncData} (F : Fun K "_law_pick" "_law_pick" s_law_pick f fd) (T : Txt mg) (D_law_draw : Df P w K mg base CX0 1 "_law_draw" spDraw) :
    FnG P w K mg base CX0 2 f fd ["_law_stream", "_law_some"] (spPick K) := by
  refine okG0 F sc_law_pick (fun vs H Q E h => ?_) (fun cdv A outer s H vs Q E hq hr h => ?_)
  · obtain ⟨a, l, p, xs, c, rfl, _⟩ := h
    rfl
  · obtain ⟨a, l, p, xs, c, rfl, hc, S, hp, hne, hz, k⟩ := h
    have hp0 : SqL K H p xs := sqL_same off_sub hp
    have hpos : 0 < xs.length := List.length_pos_iff.mpr hne
    refine ⟨_, (pss_one (ps_ret (pe_ix ix_list (pv 1) (pe_df D_law_draw hq hr pass0 (pa_cons (pv 0) (pa_cons (pe_callB call_len_seq (by rfl) T.b_len (by decide +kernel) (pa_cons (pv 1) pa_nil)) pa_nil))) (fun _ _ => rfl)))), ?_⟩
    refine ⟨_, rfl, _, rfl, _, rfl, p, xs, rfl, .inl hp0, a, l, _, c, rfl, by omega, by omega, hc, S, fun r H' r0 r1 S' nx => ?_⟩
    obtain ⟨v, hv, hm⟩ := atI_mem r0 r1
    exact ⟨p, xs, r, v, rfl, rfl, sqL_same off_sub (sqL_same nx hp), hv, k v H' hm S' nx⟩
end

def cost : Nat → Nat
  | 0 => 2
  | n + 1 => 2 + 3 * cost n
def wide : Nat → Nat
  | 0 => 40
  | n + 1 => 3 + 3 * (wide n + 2)
/-- what may be drawn: new data, at its top something plain, a list or a tuple that is tracked -/
structure Th (K : PySem.W.Frag) (H : Hp) (v : V) (n : Nat) : Prop where
  rep : Rep K H v (n + 1) (wide n)
  top : (∀ b, v ≠ .ref b) ∨ ∃ b xs, v = .ref b ∧ ((H b = some (.lst xs) ∧ xs.length ≤ 3) ∨ H b = some (.tup xs))
theorem Th.same {K : PySem.W.Frag} {H H' : Hp} {v : V} {n : Nat} (h : Th K H v n) (s : Same H H') : Th K H' v n := by
  refine ⟨h.rep.same s, ?_⟩
  rcases h.top with g | ⟨b, xs, rfl, g⟩
  · exact Or.inl g
  · exact Or.inr ⟨b, xs, rfl, g.imp (fun z => ⟨s _ _ z.1, z.2⟩) (s _ _)⟩
/-- thing(stream, n): a def for each depth; behind 0 stands nothing -/
def spThing (K : PySem.W.Frag) : Nat → Sp
  | 0 => fun _ _ _ _ => False
  | n + 1 => fun vs H Q _ => ∃ (a l : Addr) (c : Nat), vs = [.ref a, .int n] ∧ c + cost n ≤ 4000000 ∧ Strm H a l c ∧
      ∀ (v : V) (H' : Hp), Strm H' a l (c + cost n) → Nx a l H H' → Th K (nw H H') v n → Q v H'
theorem cost_pos (n : Nat) : 2 ≤ cost n := by
  cases n with
  | zero => exact Nat.le_refl _
  | succ n => unfold cost; omega
section
variable {P : Program} {w : World} {K : PySem.W.Frag} {mg : Str → Option Value} {base : Heap}
theorem leaf_ok {H : Hp} {t : Addr} {n : Nat} {v : V} (ht : H t = some (.tup [.str "elts", .int 2]))
    (hm : v ∈ [V.non, V.bl true, V.bl false, V.int 0, V.int 1, V.int (-7), V.int (10 ^ (29 : Int).toNat), V.str "", V.str "Name", V.str "a b", V.str "body", V.ref t, V.str "x"]) : Th K H v n := by
  have big : 40 ≤ wide n := by
    induction n with
    | zero => exact Nat.le_refl _
    | succ n ih => unfold wide; omega
  have tt : Rep K H (.ref t) 1 40 := (rep_tuple (n := 0) (m := 20) (SqT.of ht) ((RepAll.cons (rep_str (m := 6) (by decide +kernel)) (RepAll.cons (rep_int (m := 1) (by decide +kernel) (by decide +kernel)) (RepAll.nil (m := 9)))))).mono (Nat.le_refl _) (by decide)
  have r : Rep K H v 1 40 := by
    simp only [List.mem_cons, List.not_mem_nil, or_false] at hm
    rcases hm with rfl | rfl | rfl | rfl | rfl | rfl | rfl | rfl | rfl | rfl | rfl | rfl | rfl
    · exact rep_non (by decide)
    · exact rep_bl (by decide)
    · exact rep_bl (by decide)
    · exact rep_int (by decide +kernel) (by decide +kernel)
    · exact rep_int (by decide +kernel) (by decide +kernel)
    · exact rep_int (by decide +kernel) (by decide +kernel)
    · exact rep_int (by decide +kernel) (by decide +kernel)
    · exact rep_str (by decide +kernel)
    · exact rep_str (by decide +kernel)
    · exact rep_str (by decide +kernel)
    · exact rep_str (by decide +kernel)
    · exact tt
    · exact rep_str (by decide +kernel)
  refine ⟨r.mono (by omega) big, ?_⟩
  simp only [List.mem_cons, List.not_mem_nil, or_false] at hm
  rcases hm with rfl | rfl | rfl | rfl | rfl | rfl | rfl | rfl | rfl | rfl | rfl | rfl | rfl
  case inr.inr.inr.inr.inr.inr.inr.inr.inr.inr.inr.inl => exact Or.inr ⟨t, _, rfl, Or.inr ht⟩
  all_goals exact Or.inl (fun b z => nomatch z)
theorem ok_thing {n : Nat} {f : Addr} {fd : FuncData} (F : Fun K "_law_thing" "_law_thing" s_law_thing f fd) (T : Txt mg) (D_law_draw : Df P w K mg base CX0 1 "_law_draw" spDraw) (D_law_pick : Df P w K mg base CX0 2 "_law_pick" (spPick K))
    (D_law_thing : Df P w K mg base CX0 (n + 2) "_law_thing" (spThing K n)) : FnG P w K mg base CX0 (n + 3) f fd ["_law_stream", "_law_deep"] (spThing K (n + 1)) := by
  refine okG0 F sc_law_thing (fun vs H Q E h => ?_) (fun cdv A outer s H vs Q E hq hr h => ?_)
  · obtain ⟨a, l, c, rfl, _⟩ := h
    rfl
  · obtain ⟨a, l, c, rfl, hc, S, k⟩ := h
    have hcp := cost_pos n
    refine ⟨_, (pss_cons (ps_set (i := 2) sc_law_thing.nd rfl (Or.inl rfl) (pe_df D_law_draw hq hr pass0 (pa_cons (pv 0) (pa_cons pe_int pa_nil))))
      (pss_cons (ps_if (PW.pt (pw_and (pt_cmpR op_lt (pv 2) pe_int (nomark _)) (pw_and1 (pt_cmpR op_gt (pv 1) pe_int (nomark _)))))
      (pss_cons (ps_setLc (i := 3) (own := [("_law_k", 4)]) (by rfl) sc_law_thing.nd rfl rfl (sw_true rfl rfl rfl (by decide +kernel)) (pi_range1 rfl T.range (pa_cons (pe_df D_law_draw hq hr pass0 (pa_cons (pv 0) (pa_cons pe_int pa_nil))) pa_nil)) (blkOk_by (own := [("_law_k", 4)]) (N := N_law_thing) (sc := defScope s_law_thing) (by decide +kernel)) (fun _ _ _ _ _ => (pg_name (i := 4) sc_law_thing.nd rfl (Or.inl rfl))) (fun _ _ _ _ _ => pts_nil) (fun _ _ _ _ _ => (pe_df D_law_thing hq hr pass0 (pa_cons (pv 0) (pa_cons (pe_op op_sub (pv 1) pe_int) pa_nil)))))
      (pss_one (ps_ret (pe_ifExp (pt_cmpR op_eq (pv 2) pe_int (nomark _)) (pv 3) (pe_callTy call_tuple_of (by rfl) T.b_tuple (by decide +kernel) (pa_cons (pv 3) pa_nil))))))
      pss_nil)
      (pss_one (ps_ret (pe_df D_law_pick hq hr pass0 (pa_cons (pv 0) (pa_cons (pe_lst (pa_cons pe_non (pa_cons pe_bl (pa_cons pe_bl (pa_cons pe_int (pa_cons pe_int (pa_cons (pe_un un_neg pe_int) (pa_cons (pe_op op_pow pe_int pe_int) (pa_cons pe_str (pa_cons pe_str (pa_cons pe_str (pa_cons pe_str (pa_cons (pe_tup (pa_cons pe_str (pa_cons pe_int pa_nil))) (pa_cons pe_str pa_nil)))))))))))))) pa_nil))))))), ?_⟩
    refine ⟨_, rfl, a, l, 9, c, rfl, by decide, by decide, by omega, S, fun r H1 r0 r1 S1 nx1 => ?_⟩
    refine nm ?_
    dsimp only
    refine seq_if (fun σ H1 => σ = [some (.ref a), some (.int n), some (.int r), none, none] ∧ Strm H1 a l (c + 1) ∧ Nx a l H H1) ?_ (fun fin => ?_)
    · -- the leaf
      rintro σ H1 ⟨rfl, S1, nx1⟩
      refine ⟨_, rfl, _, rfl, _, _, rfl, rfl, ⟨by decide, by decide, by decide⟩, (by show 2 ≤ sizeLine; decide), fun t ht => ?_⟩
      refine ⟨(by show 13 ≤ sizeLine; decide), fun p hp => ?_⟩
      obtain ⟨H2, e2⟩ : ∃ H2, H2 = upd H1 t (.tup [.str "elts", .int 2]) := ⟨_, rfl⟩
      rw [← e2] at hp ⊢
      obtain ⟨H3, e3⟩ : ∃ H3, H3 = upd H2 p (.lst [V.non, V.bl true, V.bl false, V.int 0, V.int 1, V.int (-7), V.int (10 ^ (29 : Int).toNat), V.str "", V.str "Name", V.str "a b", V.str "body", V.ref t, V.str "x"]) := ⟨_, rfl⟩
      rw [← e3]
      have s12 : Same H1 H2 := by rw [e2]; exact same_new ht
      have s23 : Same H2 H3 := by rw [e3]; exact same_new hp
      have S2 : Strm H2 a l (c + 1) := by rw [e2]; exact S1.new ht
      have S3 : Strm H3 a l (c + 1) := by rw [e3]; exact S2.new hp
      have hp3 : H3 p = some (.lst [V.non, V.bl true, V.bl false, V.int 0, V.int 1, V.int (-7), V.int (10 ^ (29 : Int).toNat), V.str "", V.str "Name", V.str "a b", V.str "body", V.ref t, V.str "x"]) := by rw [e3]; exact upd_same
      have ht3 : H3 t = some (.tup [.str "elts", .int 2]) := s23 _ _ (by rw [e2]; exact upd_same)
      have hpa : p ≠ a ∧ p ≠ l := ⟨fun e => S2.dom.1 (e ▸ hp), fun e => S2.dom.2 (e ▸ hp)⟩
      have hta : t ≠ a ∧ t ≠ l := ⟨fun e => S1.dom.1 (e ▸ ht), fun e => S1.dom.2 (e ▸ ht)⟩
      refine ⟨a, l, p, _, c + 1, rfl, by omega, S3, SqL.of (off_of hp3 hpa.1 hpa.2), (by intro z; cases z), by simp, fun v H4 hm S4 nx4 => ?_⟩
      refine k v H4 (S4.mono (by omega)) (nx1.trans ((Nx.of_same (s12.trans s23)).trans nx4)) ?_
      exact leaf_ok (nw_of (nx1.free S1 ht) (nx4.get ht3 hta.1 hta.2)) hm
    · refine ⟨_, rfl, _, _, rfl, rfl, _, rfl, ?_⟩
      by_cases c1 : r < 3
      · refine if1 (decide_eq_true c1) ?_
        refine ⟨_, rfl, _, _, rfl, rfl, _, rfl, ?_⟩
        by_cases c2 : (0 : Int) < n
        · refine if1 (decide_eq_true c2) ?_
          cases n with
          | zero => exact absurd c2 (by decide)
          | succ n =>
          have hcn : cost (n + 1) = 2 + 3 * cost n := rfl
          have hwn : wide (n + 1) = 3 + 3 * (wide n + 2) := rfl
          refine ⟨_, rfl, a, l, 4, c + 1, rfl, by decide, by decide, by omega, S1, fun t H2 t0 t1 S2 nx2 => ?_⟩
          refine ⟨t, rfl, by omega, by omega, fun D hD => ?_⟩
          have hDa : D ≠ a ∧ D ≠ l := ⟨fun e => S2.dom.1 (e ▸ hD), fun e => S2.dom.2 (e ▸ hD)⟩
          obtain ⟨HD, eD⟩ : ∃ HD, HD = upd H2 D (.lst []) := ⟨_, rfl⟩
          have sD : Same H2 HD := by rw [eD]; exact same_new hD
          have SD : Strm HD a l (c + 2) := by rw [eD]; exact S2.new hD
          have nxD : Nx a l H HD := (nx1.trans nx2).trans (Nx.of_same sD)
          refine lc_range (lo := 0) (n := t.toNat) (fun i H' => ∃ vs, H' D = some (.lst vs) ∧ vs.length = i ∧ Strm H' a l (c + 2 + i * cost n) ∧ (∀ b o, HD b = some o → b ≠ a → b ≠ l → b ≠ D → H' b = some o) ∧
            RepAll K (nw HD H') vs (n + 1) (i * (wide n + 2))) ?_ ?_ ?_
          · rw [← eD]
            exact ⟨[], by rw [eD]; exact upd_same, rfl, by simpa using SD, fun b o e _ _ _ => e, RepAll.nil⟩
          · rintro i H' hi ⟨vs, hDv, hlen, S', kp, ra⟩
            have hi3 : i ≤ 2 := by omega
            have hm : i * cost n ≤ 2 * cost n := Nat.mul_le_mul_right _ hi3
            have em : (i + 1) * cost n = i * cost n + cost n := Nat.succ_mul i (cost n)
            refine ⟨rfl, yes ?_⟩
            refine ⟨_, rfl, _, rfl, _, _, rfl, rfl, ?_⟩
            refine ⟨a, l, c + 2 + i * cost n, ?_, by omega, S', fun v H'' S'' nx'' th => ?_⟩
            · show [V.ref a, V.int (((n + 1 : Nat) : Int) - 1)] = [V.ref a, V.int (n : Int)]
              congr 3
              omega
            have domHD : ∀ b, H' b = none → HD b = none := fun b hb => by
              cases q : HD b with
              | none => rfl
              | some o =>
                by_cases h1 : b = a
                · rw [h1] at hb
                  exact absurd hb S'.dom.1
                · by_cases h2 : b = l
                  · rw [h2] at hb
                    exact absurd hb S'.dom.2
                  · by_cases h3 : b = D
                    · rw [h3, hDv] at hb
                      cases hb
                    · rw [kp b o q h1 h2 h3] at hb
                      cases hb
            have hD'' : H'' D = some (.lst vs) := nx''.get hDv hDa.1 hDa.2
            have inHD : ∀ b, HD b = none → b ≠ a ∧ b ≠ l ∧ b ≠ D := fun b hb => ⟨fun e => SD.dom.1 (e ▸ hb), fun e => SD.dom.2 (e ▸ hb), fun e => by
              rw [e, eD, upd_same] at hb
              cases hb⟩
            refine ⟨vs, hD'', ?_, vs ++ [v], upd_same, by simp [hlen], ?_, ?_, ?_⟩
            · rw [hlen, sizeLine_eq]
              omega
            · rw [em]
              exact (S''.keep (upd_ne (Ne.symm hDa.1)) (upd_ne (Ne.symm hDa.2))).mono (by omega)
            · intro b o e h1 h2 h3
              rw [upd_ne h3]
              exact nx''.get (kp b o e h1 h2 h3) h1 h2
            · have e1 : Same (nw HD H') (nw HD (upd H'' D (.lst (vs ++ [v])))) := nw_same (fun b h _ => h) fun b o h1 h2 => by
                obtain ⟨z1, z2, z3⟩ := inHD b h1
                rw [upd_ne z3]
                exact nx''.get h2 z1 z2
              have e2 : Same (nw H' H'') (nw HD (upd H'' D (.lst (vs ++ [v])))) := nw_same (fun b h _ => domHD b h) fun b o h1 h2 => by
                rw [upd_ne (inHD b (domHD b h1)).2.2]
                exact h2
              have := (ra.same e1).snoc (th.rep.same e2)
              rw [Nat.succ_mul]
              exact this
          · rintro H' ⟨vs, hDv, hlen, S', kp, ra⟩
            have hi3 : t.toNat ≤ 3 := by omega
            have hm : t.toNat * cost n ≤ 3 * cost n := Nat.mul_le_mul_right _ hi3
            have hm2 : t.toNat * (wide n + 2) ≤ 3 * (wide n + 2) := Nat.mul_le_mul_right _ hi3
            have Sf : Strm H' a l (c + cost (n + 1)) := S'.mono (by omega)
            have nxf : Nx a l H H' := fun b o e => by
              obtain ⟨h1, h2, h3⟩ := off_ne (nxD b o e)
              refine off_of (kp b o h3 h1 h2 ?_) h1 h2
              rintro rfl
              obtain ⟨g1, g2, g3⟩ := off_ne e
              exact absurd ((nx1.trans nx2).get g3 g1 g2) (by rw [hD]; exact nofun)
            have hDn : H D = none := (nx1.trans nx2).free S2 hD
            have sub : Same (nw HD H') (nw H H') := nw_same (fun b h _ => nxD.free SD h) fun b o _ h => h
            have rl : Rep K (nw H H') (.ref D) (n + 1 + 1) (wide (n + 1)) := (rep_list (SqL.of (nw_of hDn hDv)) (ra.same sub)).mono (Nat.le_refl _) (by rw [hwn]; omega)
            refine ⟨_, rfl, rfl, _, rfl, ?_⟩
            by_cases c3 : V.int r = V.int 0
            · refine if1 (decide_eq_true c3) ?_
              refine ⟨_, rfl, k _ H' Sf nxf ⟨rl, Or.inr ⟨D, vs, rfl, Or.inl ⟨nw_of hDn hDv, by omega⟩⟩⟩⟩
            · refine if0 (decide_eq_false c3) ?_
              refine ⟨_, rfl, D, vs, rfl, .inl ⟨SqL.of hDv, fun q hq' => ?_⟩⟩
              have sq : Same H' (upd H' q (.tup vs)) := same_new hq'
              have sub2 : Same (nw H H') (nw H (upd H' q (.tup vs))) := nw_same (fun b h _ => h) fun b o _ h => sq b o h
              have hqn : nw H (upd H' q (.tup vs)) q = some (.tup vs) := nw_of (nxf.free Sf hq') upd_same
              refine k _ _ (Sf.new hq') (nxf.trans (Nx.of_same sq)) ⟨(rep_tuple (SqT.of hqn) ((ra.same sub).same sub2)).mono (Nat.le_refl _) (by rw [hwn]; omega), Or.inr ⟨q, vs, rfl, Or.inr hqn⟩⟩
        · refine if0 (decide_eq_false c2) ?_
          exact fin _ _ ⟨rfl, S1, nx1⟩
      · refine if0 (decide_eq_false c1) ?_
        exact fin _ _ ⟨rfl, S1, nx1⟩
end
end K01


namespace K01
open PySem L2 Tq
def rem (S : List Addr) (H : Hp) : Hp := fun b => if b ∈ S then none else H b
theorem rem_of {S : List Addr} {H : Hp} {b : Addr} {o : HO} (h : H b = some o) (hn : b ∉ S) : rem S H b = some o := by
  unfold rem
  rw [if_neg hn]
  exact h
theorem of_rem {S : List Addr} {H : Hp} {b : Addr} {o : HO} (h : rem S H b = some o) : b ∉ S ∧ H b = some o := by
  unfold rem at h
  split at h
  · cases h
  · exact ⟨by assumption, h⟩
theorem rem_sub {S : List Addr} {H : Hp} : Same (rem S H) H := fun b o e => (of_rem e).2
theorem rem_same {S : List Addr} {H H' : Hp} (h : ∀ b o, H b = some o → b ∉ S → H' b = some o) : Same (rem S H) (rem S H') := fun b o e => by
  obtain ⟨h1, h2⟩ := of_rem e
  exact rem_of (h b o h2 h1) h1
theorem rem_nx {a l p : Addr} {H H' : Hp} (h : Nx a l H H') : Same (rem [a, l, p] H) (rem [a, l, p] H') := rem_same fun b o e hb => by
  simp at hb
  exact h.get e hb.1 hb.2.1
theorem strm_same {H H' : Hp} {a l : Addr} {n : Nat} (S : Strm H a l n) (s : Same H H') : Strm H' a l n := by
  obtain ⟨ns, x, k, m, h1, h2, r⟩ := S.ex
  exact ⟨ns, x, k, m, s _ _ h1, s _ _ h2, r⟩
theorem strm_lst {H : Hp} {a l : Addr} {n : Nat} (S : Strm H a l n) : (∃ xs, H a = some (.lst xs)) ∧ ∃ ys, H l = some (.lst ys) := by
  obtain ⟨ns, x, k, m, h1, h2, r⟩ := S.ex
  exact ⟨⟨_, h1⟩, ⟨_, h2⟩⟩
theorem errs_rem {c : Nat → Addr} {H : Hp} {es : List V} {v1 v2 v3 : V} {a l kp : Addr} (h : Errs c H es v1 v2 v3) (hal : (∃ xs, H a = some (.lst xs)) ∧ ∃ ys, H l = some (.lst ys)) (hk : ∃ zs, H kp = some (.lst zs)) :
    Errs c (rem [a, l, kp] H) es v1 v2 v3 := by
  obtain ⟨⟨xs, ha⟩, ys, hl⟩ := hal
  obtain ⟨zs, hk⟩ := hk
  have go : ∀ {b : Addr} {φ : Heap → Prop}, H b = some (.ext φ) → rem [a, l, kp] H b = some (.ext φ) := fun {b φ} e => rem_of e (by
    simp only [List.mem_cons, List.not_mem_nil, or_false, not_or]
    exact ⟨ne_of e ha (fun z => nomatch z), ne_of e hl (fun z => nomatch z), ne_of e hk (fun z => nomatch z)⟩)
  refine ⟨h.1, fun j v e => ?_⟩
  obtain ⟨b, d, rfl, h1, h2⟩ := h.2 j v e
  refine ⟨b, d, rfl, go h1, ?_⟩
  rcases h2 with h2 | ⟨dx, h3, h4⟩
  · exact Or.inl h2
  · exact Or.inr ⟨dx, h3, go h4⟩
/-- what is kept of a turn -/
structure Ite where
  tp : Addr
  tl : Addr
  md : Addr
  v0 : V
  v1 : V
  v2 : V
/-- plain, or a list or tuple that is tracked -/
def Top (H : Hp) (v : V) (n : Nat) : Prop := (∀ b, v ≠ .ref b) ∨ ∃ b xs, v = .ref b ∧ ((H b = some (.lst xs) ∧ xs.length ≤ n) ∨ H b = some (.tup xs))
theorem Top.same {H H' : Hp} {v : V} {n : Nat} (h : Top H v n) (s : Same H H') : Top H' v n := by
  rcases h with h | ⟨b, xs, rfl, h⟩
  · exact Or.inl h
  · exact Or.inr ⟨b, xs, rfl, h.imp (fun z => ⟨s _ _ z.1, z.2⟩) (s _ _)⟩
structure IteOk (K : PySem.W.Frag) (c : Nat → Addr) (G : Hp) (x : Ite) (m n : Nat) : Prop where
  tp : G x.tp = some (.tup [.ref x.md, .ref x.tl])
  tl : G x.tl = some (.lst [x.v0, x.v1, x.v2])
  md : ∃ es, G x.md = some (.lst es) ∧ Errs c G es x.v0 x.v1 x.v2
  r0 : Rep K G x.v0 6 m
  r1 : Rep K G x.v1 6 m
  r2 : Rep K G x.v2 6 m
  top : Top G x.v0 n
theorem IteOk.same {K : PySem.W.Frag} {c : Nat → Addr} {G G' : Hp} {x : Ite} {m n : Nat} (h : IteOk K c G x m n) (s : Same G G') : IteOk K c G' x m n := by
  obtain ⟨es, h1, h2⟩ := h.md
  exact ⟨s _ _ h.tp, s _ _ h.tl, ⟨es, s _ _ h1, h2.same s⟩, h.r0.same s, h.r1.same s, h.r2.same s, h.top.same s⟩
structure Sep (kp : Addr) (its : List Ite) : Prop where
  sep : ∀ x ∈ its, ∀ y ∈ its, x.v0 ≠ .ref y.tl ∧ x.v0 ≠ .ref y.md
  kept : ∀ x ∈ its, x.v0 ≠ .ref kp
theorem due_dp {K : PySem.W.Frag} {G : Hp} {v0 v1 v2 : V} {d0 d1 d2 : PyData} (h0 : Dp K G v0 d0) (h1 : Dp K G v1 d1) (h2 : Dp K G v2 d2) (j : Nat) : DpAll K G (due v0 v1 v2 j) (due d0 d1 d2 j) := by
  unfold due
  by_cases c1 : j < 3
  · rw [if_pos c1, if_pos c1]; exact .nil
  · rw [if_neg c1, if_neg c1]
    by_cases c2 : j < 7
    · rw [if_pos c2, if_pos c2]; exact .cons h0 .nil
    · rw [if_neg c2, if_neg c2]
      by_cases c3 : j < 10
      · rw [if_pos c3, if_pos c3]; exact .cons h0 (.cons h1 .nil)
      · rw [if_neg c3, if_neg c3]; exact .cons h0 (.cons h1 (.cons h2 .nil))
theorem due_plain {d0 d1 d2 : PyData} {n m : Nat} (h0 : Plain d0 n m) (h1 : Plain d1 n m) (h2 : Plain d2 n m) (j : Nat) : PlainAll (due d0 d1 d2 j) n (3 * (m + 2)) := by
  unfold due
  by_cases c1 : j < 3
  · rw [if_pos c1]; exact PlainAll.nil
  · rw [if_neg c1]
    by_cases c2 : j < 7
    · rw [if_pos c2]; exact (PlainAll.cons h0 (PlainAll.nil (m := 0))).mono (Nat.le_refl _) (by omega)
    · rw [if_neg c2]
      by_cases c3 : j < 10
      · rw [if_pos c3]; exact (PlainAll.cons h0 (PlainAll.cons h1 (PlainAll.nil (m := 0)))).mono (Nat.le_refl _) (by omega)
      · rw [if_neg c3]; exact (PlainAll.cons h0 (PlainAll.cons h1 (PlainAll.cons h2 (PlainAll.nil (m := 0))))).mono (Nat.le_refl _) (by omega)
theorem due_at {G : Hp} {v0 v1 v2 : V} {p q t u : Addr} (hp : G p = some (.lst [])) (hq : G q = some (.lst [v0])) (ht : G t = some (.lst [v0, v1])) (hu : G u = some (.lst [v0, v1, v2])) {j : Nat} (h : j < 11) :
    ∃ z, [V.ref p, .ref p, .ref p, .ref q, .ref q, .ref q, .ref q, .ref t, .ref t, .ref t, .ref u][j]? = some (.ref z) ∧ G z = some (.lst (due v0 v1 v2 j)) := by
  match j, h with
  | 0, _ => exact ⟨p, rfl, hp⟩
  | 1, _ => exact ⟨p, rfl, hp⟩
  | 2, _ => exact ⟨p, rfl, hp⟩
  | 3, _ => exact ⟨q, rfl, hq⟩
  | 4, _ => exact ⟨q, rfl, hq⟩
  | 5, _ => exact ⟨q, rfl, hq⟩
  | 6, _ => exact ⟨q, rfl, hq⟩
  | 7, _ => exact ⟨t, rfl, ht⟩
  | 8, _ => exact ⟨t, rfl, ht⟩
  | 9, _ => exact ⟨t, rfl, ht⟩
  | 10, _ => exact ⟨u, rfl, hu⟩
/-- one list that is no list of the laws' own gets a 7 -/
theorem IteOk.app {K : PySem.W.Frag} {c : Nat → Addr} {G : Hp} {x : Ite} {m n : Nat} {b : Addr} {xs : List V} (h : IteOk K c G x m n) (hb : G b = some (.lst xs)) (h1 : b ≠ x.tl) (h2 : b ≠ x.md) (hl : xs.length ≤ n) :
    IteOk K c (upd G b (.lst (xs ++ [.int 7]))) x (4 * m) (n + 1) := by
  have e7 : Plain (.int 7) 0 2 := ⟨by decide +kernel, rfl, Nat.le_refl _, by decide +kernel⟩
  have d7 : ∀ H' : Hp, Dp K H' (.int 7) (.int 7) := fun _ => .int 7
  have go : ∀ {p : Addr} {o : HO}, G p = some o → (∀ ys, o ≠ .lst ys) → upd G b (.lst (xs ++ [.int 7])) p = some o := fun {p o} e no => by
    rw [upd_ne (ne_of e hb (no _))]
    exact e
  obtain ⟨es, e1, e2⟩ := h.md
  refine ⟨go h.tp (fun _ z => nomatch z), by rw [upd_ne (Ne.symm h1)]; exact h.tl, ⟨es, by rw [upd_ne (Ne.symm h2)]; exact e1, e2.1, fun j v e => ?_⟩, h.r0.app hb d7 e7, h.r1.app hb d7 e7, h.r2.app hb d7 e7, ?_⟩
  · obtain ⟨p, d, rfl, g1, g2⟩ := e2.2 j v e
    refine ⟨p, d, rfl, go g1 (fun _ z => nomatch z), ?_⟩
    rcases g2 with g2 | ⟨dx, g3, g4⟩
    · exact Or.inl g2
    · exact Or.inr ⟨dx, g3, go g4 (fun _ z => nomatch z)⟩
  · rcases h.top with g | ⟨p, zs, e, g⟩
    · exact Or.inl g
    · refine Or.inr ?_
      by_cases hp : p = b
      · subst hp
        exact ⟨p, xs ++ [.int 7], e, Or.inl ⟨upd_same, by simp; exact hl⟩⟩
      · refine ⟨p, zs, e, ?_⟩
        rw [upd_ne hp]
        exact g.imp (fun z => ⟨z.1, Nat.le_succ_of_le z.2⟩) id
theorem IteOk.up {K : PySem.W.Frag} {c : Nat → Addr} {G : Hp} {x : Ite} {m n m' n' : Nat} (h : IteOk K c G x m n) (hm : m ≤ m') (hn : n ≤ n') : IteOk K c G x m' n' :=
  ⟨h.tp, h.tl, h.md, h.r0.mono (Nat.le_refl _) hm, h.r1.mono (Nat.le_refl _) hm, h.r2.mono (Nat.le_refl _) hm, h.top.imp id fun ⟨b, xs, e, g⟩ => ⟨b, xs, e, g.imp (fun z => ⟨z.1, Nat.le_trans z.2 hn⟩) id⟩⟩
theorem kitL {K : PySem.W.Frag} {t : String} (b : Bool) (h : kitB t "list" = some b) : PySem.W.kitOne K (.type t) (.type "list") = some b := kit_ty h
theorem is_list {K : PySem.W.Frag} {G : Hp} {v : V} {m n k : Nat} (h : Top G v n) (r : Rep K G v k m) :
    ∃ (t : Value) (b : Bool), TyX K G v t ∧ PySem.W.kitOne K t (.type "list") = some b ∧ (b = true → ∃ p xs, v = .ref p ∧ G p = some (.lst xs) ∧ xs.length ≤ n) := by
  rcases h with h | ⟨p, xs, rfl, h | h⟩
  · obtain ⟨d, hd, _⟩ := r
    cases hd with
    | non => exact ⟨_, false, .base .non, kitL false (by decide +kernel), fun z => nomatch z⟩
    | bl b => exact ⟨_, false, .base (.bl b), kitL false (by decide +kernel), fun z => nomatch z⟩
    | int i => exact ⟨_, false, .base (.int i), kitL false (by decide +kernel), fun z => nomatch z⟩
    | str x => exact ⟨_, false, .base (.str x), kitL false (by decide +kernel), fun z => nomatch z⟩
    | lst => exact absurd rfl (h _)
    | tup => exact absurd rfl (h _)
  · exact ⟨_, true, .base (.lst h.1), kitL true (by decide +kernel), fun _ => ⟨p, xs, rfl, h.1, h.2⟩⟩
  · exact ⟨_, false, .base (.tup h), kitL false (by decide +kernel), fun z => nomatch z⟩
def spLaw (K : PySem.W.Frag) : Sp := fun vs H Q _ => ∃ (s : Addr) (ns : List Int), vs = [.ref s] ∧ SqL K H s (ns.map V.int) ∧ ns.length ≤ 63 ∧ ∀ H', Q (.bl true) H'
section
variable {P : Program} {w : World} {K : PySem.W.Frag} {mg : Str → Option Value} {base : Heap} {c : Nat → Addr} {TE : Addr}
theorem ok_law {f : Addr} {fd : FuncData} (F : Fun K "law" "law" slaw f fd) (T : Cls P w K mg base c TE) (D_law_draw : Df P w K mg base CX0 1 "_law_draw" spDraw) (D_law_thing : Df P w K mg base CX0 6 "_law_thing" (spThing K 4))
    (D_law_made : Df P w K mg base CX0 4 "_law_made" (spMade c)) (D_law_named : Df P w K mg base CX0 4 "_law_named" (spMade c)) (D_law_fields : Df P w K mg base CX0 1 "_law_fields" (spFields c)) (D_law_kinds : Df P w K mg base CX0 1 "_law_kinds" (spKinds c)) :
    FnG P w K mg base CX0 7 f fd ["_law_script"] (spLaw K) := by
  refine okG0 F sclaw (fun vs H Q E h => ?_) (fun cdv A outer s H vs Q E hq hr h => ?_)
  · obtain ⟨a, ns, rfl, _⟩ := h
    rfl
  · obtain ⟨sc, ns, rfl, hsc, hns, kQ⟩ := h
    refine ⟨_, (pss_cons (ps_set (i := 1) sclaw.nd rfl (Or.inr rfl) (pe_lst (pa_cons (pe_callTy call_list_of (by rfl) T.b_list (by decide +kernel) (pa_cons (pv 0) pa_nil)) (pa_cons pe_int (pa_cons pe_int (pa_cons pe_int pa_nil))))))
      (pss_cons (ps_set (i := 2) sclaw.nd rfl (Or.inl rfl) (pe_lst pa_nil))
      (pss_cons (ps_for PassesOwn.never rfl (pi_range1 rfl T.range (pa_cons pe_int pa_nil)) (pg_name (i := 3) sclaw.nd rfl (Or.inl rfl))
      (pss_cons (ps_setLc (i := 5) (own := [("_law_k", 4)]) (by rfl) sclaw.nd rfl rfl (sw_true rfl rfl rfl (by decide +kernel)) (pi_range1 rfl T.range (pa_cons pe_int pa_nil)) (blkOk_by (own := [("_law_k", 4)]) (N := Nlaw) (sc := defScope slaw) (by decide +kernel)) (fun _ _ _ _ _ => (pg_name (i := 4) sclaw.nd rfl (Or.inl rfl))) (fun _ _ _ _ _ => pts_nil) (fun _ _ _ _ _ => (pe_df D_law_thing hq hr pass0 (pa_cons (pv 1) (pa_cons pe_int pa_nil)))))
      (pss_cons (ps_if (pt_cmpR op_eq (pe_df D_law_draw hq hr pass0 (pa_cons (pv 1) (pa_cons pe_int pa_nil))) pe_int (nomark _))
      (pss_one (ps_asg (pe_lst (pa_cons (pe_ix ix_list (pv 5) pe_int (fun _ _ => rfl)) (pa_cons pe_str pa_nil))) (pg_sub (pv 5) pe_int set_list)))
      pss_nil)
      (pss_cons (ps_set (i := 6) sclaw.nd rfl (Or.inl rfl) (pe_callB (call_repr hq hr) (by rfl) T.b_repr (by decide +kernel) (pa_cons (pv 5) pa_nil)))
      (pss_cons (ps_asg (pv 5) (pg_unl (by rfl) (pgs_cons (pg_name (i := 7) sclaw.nd rfl (Or.inl rfl)) (pgs_cons (pg_name (i := 8) sclaw.nd rfl (Or.inl rfl)) (pgs_cons (pg_name (i := 9) sclaw.nd rfl (Or.inl rfl)) pgs_nil)))))
      (pss_cons (ps_set (i := 10) sclaw.nd rfl (Or.inl rfl) (pe_ifExp (pt_cmpR op_eq (pe_df D_law_draw hq hr pass0 (pa_cons (pv 1) (pa_cons pe_int pa_nil))) pe_int (nomark _)) (pe_df D_law_made hq hr pass0 (pa_cons (pv 7) (pa_cons (pv 8) (pa_cons (pv 9) pa_nil)))) (pe_df D_law_named hq hr pass0 (pa_cons (pv 7) (pa_cons (pv 8) (pa_cons (pv 9) pa_nil))))))
      (pss_cons (ps_expr (pe_bm PySem.F.plainAttrs_list PySem.F.slot_list_append PySem.F.type_list_append mt_append (pv 2) (pa_cons (pe_tup (pa_cons (pv 10) (pa_cons (pv 5) pa_nil))) pa_nil)))
      (pss_one (ps_if (pt_cmpR op_ne (pe_callB (call_repr hq hr) (by rfl) T.b_repr (by decide +kernel) (pa_cons (pv 5) pa_nil)) (pv 6) (nomark _))
      (pss_one (ps_ret pe_bl))
      pss_nil)))))))))
      (pss_cons (ps_for PassesOwn.never rfl (pi_list (pv 2)) (pg_tup (by rfl) (pgs_cons (pg_name (i := 10) sclaw.nd rfl (Or.inl rfl)) (pgs_cons (pg_name (i := 5) sclaw.nd rfl (Or.inl rfl)) pgs_nil)))
      (pss_cons (ps_if (pt_val (pe_callB call_isi (by rfl) T.b_isinstance (by decide +kernel) (pa_cons (pe_ix ix_list (pv 5) pe_int (fun _ _ => rfl)) (pa_cons (pe_bltn (v := .ty "list") rfl T.b_list (by decide +kernel) rfl) pa_nil))))
      (pss_one (ps_expr (pe_bm PySem.F.plainAttrs_list PySem.F.slot_list_append PySem.F.type_list_append mt_append (pe_ix ix_list (pv 5) pe_int (fun _ _ => rfl)) (pa_cons pe_int pa_nil))))
      pss_nil)
      (pss_cons (ps_set (i := 11) sclaw.nd rfl (Or.inl rfl) (pe_op op_cat (pe_op op_cat (pe_op op_cat (pe_op op_rep (pe_lst (pa_cons (pe_lst pa_nil) pa_nil)) pe_int) (pe_op op_rep (pe_lst (pa_cons (pe_slice sl_list (pv 5) po_none (po_some pe_int)) pa_nil)) pe_int)) (pe_op op_rep (pe_lst (pa_cons (pe_slice sl_list (pv 5) po_none (po_some pe_int)) pa_nil)) pe_int)) (pe_lst (pa_cons (pv 5) pa_nil))))
      (pss_one (ps_for PassesOwn.never rfl (pi_range1 rfl T.range (pa_cons pe_int pa_nil)) (pg_name (i := 4) sclaw.nd rfl (Or.inl rfl))
      (pss_cons (ps_if (PW.pt (pw_or (pt_cmpR op_ne (pe_callB (call_repr hq hr) (by rfl) T.b_repr (by decide +kernel) (pa_cons (pe_df D_law_fields hq hr pass0 (pa_cons (pv 4) (pa_cons (pe_ix ix_list (pv 10) (pv 4) (fun _ _ => rfl)) pa_nil))) pa_nil)) (pe_callB (call_repr hq hr) (by rfl) T.b_repr (by decide +kernel) (pa_cons (pe_ix ix_list (pv 11) (pv 4) (fun _ _ => rfl)) pa_nil)) (nomark _)) (pw_or1 (pt_cmpR (op_neD hr.units) (pe_df D_law_kinds hq hr pass0 (pa_cons (pe_ix ix_list (pv 10) (pv 4) (fun _ _ => rfl)) pa_nil)) (pe_lst (pa_cons (pv 4) pa_nil)) (nomark _)))))
      (pss_one (ps_ret pe_bl))
      pss_nil)
      (pss_one (ps_if (PW.pt (pw_or (pt_not (pt_val (pe_callB call_isX (by rfl) T.b_isinstance (by decide +kernel) (pa_cons (pe_ix ix_list (pv 10) (pv 4) (fun _ _ => rfl)) (pa_cons (pe_glob (v := .ref TE) rfl T.te.g rfl) pa_nil))))) (pw_or1 (pt_not (pt_val (pe_callB call_isX (by rfl) T.b_isinstance (by decide +kernel) (pa_cons (pe_ix ix_list (pv 10) (pv 4) (fun _ _ => rfl)) (pa_cons (pe_bltn (v := .ty "ValueError") rfl T.b_ValueError (by decide +kernel) rfl) pa_nil))))))))
      (pss_one (ps_ret pe_bl))
      pss_nil))))))))
      (pss_one (ps_ret pe_bl)))))), ?_⟩
    -- stream = [list(script), 0, 0, 0]
    refine ⟨_, rfl, sc, _, rfl, .inl hsc, fun l hl => ⟨(by show 4 ≤ sizeLine; decide), fun a ha => ?_⟩⟩
    have hal : l ≠ a := ne_of_none upd_same ha
    obtain ⟨H1, e1⟩ : ∃ H1, H1 = upd (upd H l (.lst (ns.map V.int))) a (.lst [.ref l, .int 0, .int 0, .int 0]) := ⟨_, rfl⟩
    rw [← e1]
    have S1 : Strm H1 a l 0 := by
      rw [e1]
      refine ⟨ns, 0, 0, 0, upd_same, ?_, by decide, by decide, by decide, by decide, by decide⟩
      rw [upd_ne hal, upd_same]
    -- kept = []
    refine nm ?_
    refine ⟨(by show 0 ≤ sizeLine; decide), fun kp hkp => ?_⟩
    have hka : kp ≠ a ∧ kp ≠ l := ⟨fun e => S1.dom.1 (e ▸ hkp), fun e => S1.dom.2 (e ▸ hkp)⟩
    obtain ⟨H2, e2⟩ : ∃ H2, H2 = upd H1 kp (.lst []) := ⟨_, rfl⟩
    rw [← e2]
    have S2 : Strm H2 a l 0 := by rw [e2]; exact S1.new hkp
    refine nm ?_
    dsimp only
    refine seq_for (fun σ H' => ∃ (its : List Ite) (s3 s5 s6 s7 s8 s9 s10 : Option V), σ = [some (.ref sc), some (.ref a), some (.ref kp), s3, none, s5, s6, s7, s8, s9, s10, none] ∧ its.length = 3 ∧
      H' kp = some (.lst (its.map fun x => .ref x.tp)) ∧ (∀ x ∈ its, IteOk K c (rem [a, l, kp] H') x 1300 3) ∧ Sep kp its) ?_ (fun fin => ?_)
    · rintro σ H3 ⟨its, s3, s5, s6, s7, s8, s9, s10, rfl, hlen, hk3, ok3, sep⟩
      refine ⟨_, rfl, kp, rfl, ⟨_, SqL.of hk3⟩, for_list (K := K) (a := kp) (xs := its.map fun x => .ref x.tp) (fun i σ G => ∃ (s4 s5 s10 s11 : Option V), σ = [some (.ref sc), some (.ref a), some (.ref kp), s3, s4, s5, s6, s7, s8, s9, s10, s11] ∧
        G kp = some (.lst (its.map fun x => .ref x.tp)) ∧ ∀ x ∈ its, IteOk K c G x (1300 * 4 ^ i) (3 + i)) ⟨none, s5, s10, none, rfl, hk3, fun x hx => (ok3 x hx).same rem_sub⟩ (fun i σ G _ ⟨_, _, _, _, _, h, _⟩ => SqL.of h) ?_ ?_⟩
      · rintro i y σ G hi ⟨s4, s5, s10, s11, rfl, hk, ok⟩
        obtain ⟨x, hx, rfl⟩ : ∃ x, x ∈ its ∧ y = .ref x.tp := by
          rw [List.getElem?_map] at hi
          cases e : its[i]? with
          | none => rw [e] at hi; cases hi
          | some x => rw [e] at hi; exact ⟨x, List.mem_of_getElem? e, (Option.some.inj hi).symm⟩
        have hi3 : i < 3 := by
          have := (List.getElem?_eq_some_iff.mp hi).1
          rw [List.length_map] at this
          omega
        have ox := ok x hx
        refine ⟨x.tp, _, rfl, SqT.of ox.tp, rfl, _, _, rfl, _, _, rfl, rfl, ?_⟩
        dsimp only
        have pow4 : 1300 * 4 ^ (i + 1) = 4 * (1300 * 4 ^ i) := by rw [Nat.pow_succ]; omega
        refine seq_if (fun σ G => σ = [some (.ref sc), some (.ref a), some (.ref kp), s3, s4, some (.ref x.tl), s6, s7, s8, s9, some (.ref x.md), s11] ∧ G kp = some (.lst (its.map fun x => .ref x.tp)) ∧
          ∀ x ∈ its, IteOk K c G x (1300 * 4 ^ (i + 1)) (3 + (i + 1))) ?_ (fun fin4 => ?_)
        · rintro σ G ⟨rfl, hk, ok⟩
          have ox := ok x hx
          obtain ⟨d0, dp0, pl0⟩ := ox.r0
          obtain ⟨d1, dp1, pl1⟩ := ox.r1
          obtain ⟨d2, dp2, pl2⟩ := ox.r2
          obtain ⟨es, hmd, er⟩ := ox.md
          have pw : 4 ^ (i + 1) ≤ 4 ^ 3 := Nat.pow_le_pow_right (by decide) (by omega)
          have pw2 : 1300 * 4 ^ (i + 1) ≤ 83200 := by omega
          -- dues
          refine ⟨(by show 0 ≤ sizeLine; decide), fun p np => ?_⟩
          have s1 : Same G (upd G p (.lst [])) := same_new np
          have hp : (upd G p (.lst [])) p = some (.lst []) := upd_same
          generalize upd G p (.lst []) = G1 at s1 hp ⊢
          refine ⟨(by show 1 ≤ sizeLine; decide), fun p1 np1 => ?_⟩
          have s2 : Same G1 (upd G1 p1 (.lst [.ref p])) := same_new np1
          have hp1 : (upd G1 p1 (.lst [.ref p])) p1 = some (.lst [.ref p]) := upd_same
          generalize upd G1 p1 (.lst [.ref p]) = G2 at s2 hp1 ⊢
          refine ⟨p1, 3, _, rfl, rfl, hp1, by decide, by decide, (by show 1 * 3 ≤ sizeLine; decide), fun p2 np2 => ?_⟩
          have s3 : Same G2 (upd G2 p2 (.lst (List.replicate (3 : Int).toNat [.ref p]).flatten)) := same_new np2
          have hp2 : (upd G2 p2 (.lst (List.replicate (3 : Int).toNat [.ref p]).flatten)) p2 = some (.lst (List.replicate (3 : Int).toNat [.ref p]).flatten) := upd_same
          generalize upd G2 p2 (.lst (List.replicate (3 : Int).toNat [.ref p]).flatten) = G3 at s3 hp2 ⊢
          have t3 : Same G G3 := s1.trans (s2.trans s3)
          refine ⟨_, rfl, 1, rfl, x.tl, _, rfl, SqL.of (t3 _ _ ox.tl), fun q nq => ?_⟩
          have s4 : Same G3 (upd G3 q (.lst (cutV [x.v0, x.v1, x.v2] none (some 1)))) := same_new nq
          have hq : (upd G3 q (.lst (cutV [x.v0, x.v1, x.v2] none (some 1)))) q = some (.lst (cutV [x.v0, x.v1, x.v2] none (some 1))) := upd_same
          generalize upd G3 q (.lst (cutV [x.v0, x.v1, x.v2] none (some 1))) = G4 at s4 hq ⊢
          refine ⟨(by show 1 ≤ sizeLine; decide), fun q1 nq1 => ?_⟩
          have s5 : Same G4 (upd G4 q1 (.lst [.ref q])) := same_new nq1
          have hq1 : (upd G4 q1 (.lst [.ref q])) q1 = some (.lst [.ref q]) := upd_same
          generalize upd G4 q1 (.lst [.ref q]) = G5 at s5 hq1 ⊢
          refine ⟨q1, 4, _, rfl, rfl, hq1, by decide, by decide, (by show 1 * 4 ≤ sizeLine; decide), fun q2 nq2 => ?_⟩
          have s6 : Same G5 (upd G5 q2 (.lst (List.replicate (4 : Int).toNat [.ref q]).flatten)) := same_new nq2
          have hq2 : (upd G5 q2 (.lst (List.replicate (4 : Int).toNat [.ref q]).flatten)) q2 = some (.lst (List.replicate (4 : Int).toNat [.ref q]).flatten) := upd_same
          generalize upd G5 q2 (.lst (List.replicate (4 : Int).toNat [.ref q]).flatten) = G6 at s6 hq2 ⊢
          have t6 : Same G3 G6 := s4.trans (s5.trans s6)
          refine ⟨p2, q2, _, _, rfl, rfl, t6 _ _ hp2, hq2, (by show 3 + 4 ≤ sizeLine; decide), fun r1 nr1 => ?_⟩
          have s7 : Same G6 (upd G6 r1 (.lst ((List.replicate (3 : Int).toNat [.ref p]).flatten ++ (List.replicate (4 : Int).toNat [.ref q]).flatten))) := same_new nr1
          have hr1 : (upd G6 r1 (.lst ((List.replicate (3 : Int).toNat [.ref p]).flatten ++ (List.replicate (4 : Int).toNat [.ref q]).flatten))) r1 = some (.lst ((List.replicate (3 : Int).toNat [.ref p]).flatten ++ (List.replicate (4 : Int).toNat [.ref q]).flatten)) := upd_same
          generalize upd G6 r1 (.lst ((List.replicate (3 : Int).toNat [.ref p]).flatten ++ (List.replicate (4 : Int).toNat [.ref q]).flatten)) = G7 at s7 hr1 ⊢
          have t7 : Same G G7 := t3.trans (t6.trans s7)
          refine ⟨_, rfl, 2, rfl, x.tl, _, rfl, SqL.of (t7 _ _ ox.tl), fun t nt => ?_⟩
          have s8 : Same G7 (upd G7 t (.lst (cutV [x.v0, x.v1, x.v2] none (some 2)))) := same_new nt
          have ht : (upd G7 t (.lst (cutV [x.v0, x.v1, x.v2] none (some 2)))) t = some (.lst (cutV [x.v0, x.v1, x.v2] none (some 2))) := upd_same
          generalize upd G7 t (.lst (cutV [x.v0, x.v1, x.v2] none (some 2))) = G8 at s8 ht ⊢
          refine ⟨(by show 1 ≤ sizeLine; decide), fun t1 nt1 => ?_⟩
          have s9 : Same G8 (upd G8 t1 (.lst [.ref t])) := same_new nt1
          have ht1 : (upd G8 t1 (.lst [.ref t])) t1 = some (.lst [.ref t]) := upd_same
          generalize upd G8 t1 (.lst [.ref t]) = G9 at s9 ht1 ⊢
          refine ⟨t1, 3, _, rfl, rfl, ht1, by decide, by decide, (by show 1 * 3 ≤ sizeLine; decide), fun t2 nt2 => ?_⟩
          have s10 : Same G9 (upd G9 t2 (.lst (List.replicate (3 : Int).toNat [.ref t]).flatten)) := same_new nt2
          have ht2 : (upd G9 t2 (.lst (List.replicate (3 : Int).toNat [.ref t]).flatten)) t2 = some (.lst (List.replicate (3 : Int).toNat [.ref t]).flatten) := upd_same
          generalize upd G9 t2 (.lst (List.replicate (3 : Int).toNat [.ref t]).flatten) = G10 at s10 ht2 ⊢
          have t10 : Same G7 G10 := s8.trans (s9.trans s10)
          refine ⟨r1, t2, _, _, rfl, rfl, t10 _ _ hr1, ht2, (by show 7 + 3 ≤ sizeLine; decide), fun r2 nr2 => ?_⟩
          have s11 : Same G10 (upd G10 r2 (.lst (((List.replicate (3 : Int).toNat [.ref p]).flatten ++ (List.replicate (4 : Int).toNat [.ref q]).flatten) ++ (List.replicate (3 : Int).toNat [.ref t]).flatten))) := same_new nr2
          have hr2 : (upd G10 r2 (.lst (((List.replicate (3 : Int).toNat [.ref p]).flatten ++ (List.replicate (4 : Int).toNat [.ref q]).flatten) ++ (List.replicate (3 : Int).toNat [.ref t]).flatten))) r2 = some (.lst (((List.replicate (3 : Int).toNat [.ref p]).flatten ++ (List.replicate (4 : Int).toNat [.ref q]).flatten) ++ (List.replicate (3 : Int).toNat [.ref t]).flatten)) := upd_same
          generalize upd G10 r2 (.lst (((List.replicate (3 : Int).toNat [.ref p]).flatten ++ (List.replicate (4 : Int).toNat [.ref q]).flatten) ++ (List.replicate (3 : Int).toNat [.ref t]).flatten)) = G11 at s11 hr2 ⊢
          refine ⟨_, rfl, (by show 1 ≤ sizeLine; decide), fun u nu => ?_⟩
          have s12 : Same G11 (upd G11 u (.lst [.ref x.tl])) := same_new nu
          have hu : (upd G11 u (.lst [.ref x.tl])) u = some (.lst [.ref x.tl]) := upd_same
          generalize upd G11 u (.lst [.ref x.tl]) = G12 at s12 hu ⊢
          refine ⟨r2, u, _, _, rfl, rfl, s12 _ _ hr2, hu, (by show 10 + 1 ≤ sizeLine; decide), fun du ndu => ?_⟩
          have s13 : Same G12 (upd G12 du (.lst ((((List.replicate (3 : Int).toNat [.ref p]).flatten ++ (List.replicate (4 : Int).toNat [.ref q]).flatten) ++ (List.replicate (3 : Int).toNat [.ref t]).flatten) ++ [.ref x.tl]))) := same_new ndu
          have hdu : (upd G12 du (.lst ((((List.replicate (3 : Int).toNat [.ref p]).flatten ++ (List.replicate (4 : Int).toNat [.ref q]).flatten) ++ (List.replicate (3 : Int).toNat [.ref t]).flatten) ++ [.ref x.tl]))) du = some (.lst ((((List.replicate (3 : Int).toNat [.ref p]).flatten ++ (List.replicate (4 : Int).toNat [.ref q]).flatten) ++ (List.replicate (3 : Int).toNat [.ref t]).flatten) ++ [.ref x.tl])) := upd_same
          generalize upd G12 du (.lst ((((List.replicate (3 : Int).toNat [.ref p]).flatten ++ (List.replicate (4 : Int).toNat [.ref q]).flatten) ++ (List.replicate (3 : Int).toNat [.ref t]).flatten) ++ [.ref x.tl])) = G13 at s13 hdu ⊢
          have tp13 : Same G1 G13 := s2.trans (s3.trans (t6.trans (s7.trans (t10.trans (s11.trans (s12.trans s13))))))
          have tq13 : Same G4 G13 := s5.trans (s6.trans (s7.trans (t10.trans (s11.trans (s12.trans s13)))))
          have tt13 : Same G8 G13 := s9.trans (s10.trans (s11.trans (s12.trans s13)))
          have all : Same G G13 := s1.trans tp13
          have at13 := fun {j : Nat} (h : j < 11) => due_at (G := G13) (v0 := x.v0) (v1 := x.v1) (v2 := x.v2) (p := p) (q := q) (t := t) (u := x.tl) (tp13 _ _ hp) (tq13 _ _ hq) (tt13 _ _ ht) (all _ _ ox.tl) h
          replace hdu : G13 du = some (.lst [V.ref p, .ref p, .ref p, .ref q, .ref q, .ref q, .ref q, .ref t, .ref t, .ref t, .ref x.tl]) := hdu
          clear s1 s2 s3 s4 s5 s6 s7 s8 s9 s10 s11 s12 s13 t3 t6 t7 t10 tp13 tq13 tt13 hp1 hp2 hq1 hq2 hr1 ht1 ht2 hr2 hu
          have pld := fun j => plain_list (due_plain pl0 pl1 pl2 j)
          have hz : ∀ j, (PyData.list (due d0 d1 d2 j)).shown.length ≤ sizeLine := fun j => by
            have h1 := shown_le _ (pld j).nd
            have h2 := (pld j).tx
            rw [sizeLine_eq]
            omega
          have hdep : ∀ j, (PyData.list (due d0 d1 d2 j)).depth ≤ 60 := fun j => Nat.le_trans (pld j).dp (by decide)
          refine nm ?_
          dsimp only
          refine ⟨11, rfl, by decide, by decide, for_range (lo := 0) (n := 11) (fun j σ G' => ∃ s4, σ = [some (.ref sc), some (.ref a), some (.ref kp), s3, s4, some (.ref x.tl), s6, s7, s8, s9, some (.ref x.md), some (.ref du)] ∧ Same G13 G') ⟨_, rfl, Same.refl _⟩ ?_ ?_⟩
          · rintro j σ G' hj ⟨s4', rfl, sG⟩
            have kj : ((0 : Int) + (j : Nat)) = ((j : Nat) : Int) := by omega
            refine nm ?_
            rw [kj]
            have toG : Same G G' := all.trans sG
            obtain ⟨ej, hej⟩ : ∃ e, es[j]? = some e := ⟨es[j]'(by rw [er.1]; exact hj), List.getElem?_eq_getElem _⟩
            have hEr : ∀ {G2 : Hp}, Same G' G2 → Er G2 (c j) ej (flds x.v0 x.v1 x.v2 j) := fun s => (er.2 j ej hej).same (toG.trans s)
            obtain ⟨z, hz1, hz2⟩ := at13 hj
            -- the fields are told alike
            refine ⟨_, rfl, _, rfl, _, rfl, x.md, es, _, ej, rfl, rfl, SqL.of (toG _ _ hmd), at_of rfl hej, j, ej, x.v0, x.v1, x.v2, rfl, hj, hEr (Same.refl _), fun G2 p2 s2 hp2 => ?_⟩
            have toG2 : Same G G2 := toG.trans s2
            refine ⟨p2, .list (due d0 d1 d2 j), rfl, .lst (SqL.of hp2) (due_dp (dp_same toG2 _ _ dp0) (dp_same toG2 _ _ dp1) (dp_same toG2 _ _ dp2) j), (pld j).sh, (pld j).nd, hdep j, hz j, ?_⟩
            refine ⟨_, rfl, _, rfl, du, _, _, .ref z, rfl, rfl, SqL.of (s2 _ _ (sG _ _ hdu)), at_of rfl hz1, ?_⟩
            refine ⟨z, .list (due d0 d1 d2 j), rfl, .lst (SqL.of (s2 _ _ (sG _ _ hz2))) (due_dp (dp_same toG2 _ _ dp0) (dp_same toG2 _ _ dp1) (dp_same toG2 _ _ dp2) j), (pld j).sh, (pld j).nd, hdep j, hz j, ?_⟩
            refine ⟨rfl, _, rfl, if0 (by rw [decide_eq_true rfl]; rfl) ?_⟩
            -- its class
            refine ⟨_, rfl, _, rfl, x.md, es, _, ej, rfl, rfl, SqL.of (toG2 _ _ hmd), at_of rfl hej, j, ej, _, rfl, hj, hEr s2, fun G3 p3 s3' hp3 => ?_⟩
            refine ⟨_, rfl, (by show 1 ≤ sizeLine; decide), fun p4 np4 => ?_⟩
            have s34 : Same G3 (upd G3 p4 (.lst [.int j])) := same_new np4
            have sj : SeqAt.shaped (.list [.int j]) = true := shaped_ints [(j : Int)]
            refine ⟨.list [.int j], .list [.int j], .lst (SqL.of (s34 _ _ hp3)) (.cons (.int _) .nil), .lst (SqL.of upd_same) (.cons (.int _) .nil), sj, sj, _, rfl, if0 ?_ ?_⟩
            · simp [PyData.eqv, PyData.eqvAll]
            have s14 : Same G' (upd G3 p4 (.lst [.int j])) := s2.trans (s3'.trans s34)
            generalize upd G3 p4 (.lst [.int j]) = G4 at s14 ⊢
            have toG4 : Same G G4 := toG.trans s14
            obtain ⟨pe, pd, rfl, ha, hd⟩ := er_is (hEr s14)
            refine ⟨_, rfl, _, rfl, x.md, es, _, _, rfl, rfl, SqL.of (toG4 _ _ hmd), at_of rfl hej, pe, _, pd, _, _, true, rfl, ha, hd, (T.kl hj).ec, .own TE, (T.kl hj).kit_te T.te, _, rfl, if0 rfl ?_⟩
            refine ⟨_, rfl, _, rfl, x.md, es, _, _, rfl, rfl, SqL.of (toG4 _ _ hmd), at_of rfl hej, pe, _, pd, _, _, true, rfl, ha, hd, (T.kl hj).ec, .ty "ValueError", (T.kl hj).kit_ve, _, rfl, if0 rfl ?_⟩
            exact ⟨_, rfl, sG.trans s14⟩
          · rintro σ G' ⟨s4', rfl, sG⟩
            exact ⟨_, _, _, _, rfl, sG _ _ (all _ _ hk), fun y hy => (ok y hy).same (all.trans sG)⟩
        · obtain ⟨t, b, ty, kit, isl⟩ := is_list ox.top ox.r0
          refine ⟨_, rfl, x.tl, _, _, _, rfl, rfl, SqL.of ox.tl, rfl, _, _, _, _, b, rfl, .ty "list", ty, kit, _, rfl, ?_⟩
          cases b with
          | false =>
            refine if0 rfl ?_
            exact fin4 _ _ ⟨rfl, hk, fun y hy => (ok y hy).up (by rw [pow4]; omega) (by omega)⟩
          | true =>
            refine if1 rfl ?_
            obtain ⟨p, xs, ep, hp, hpl⟩ := isl rfl
            refine ⟨_, rfl, x.tl, _, _, _, rfl, rfl, SqL.of ox.tl, rfl, ?_⟩
            rw [ep]
            refine ⟨.inl ⟨rfl, _, SqL.of hp⟩, p, xs, _, rfl, rfl, hp, (by rw [sizeLine_eq]; omega), ?_⟩
            refine fin4 _ _ ⟨rfl, ?_, fun y hy => ?_⟩
            · rw [upd_ne (fun e => sep.kept x hx (by rw [ep, e]))]
              exact hk
            · have := (ok y hy).app hp (fun e => (sep.sep x hx y hy).1 (by rw [ep, e])) (fun e => (sep.sep x hx y hy).2 (by rw [ep, e])) hpl
              exact this.up (by rw [pow4]; exact Nat.le_refl _) (by omega)
      · rintro σ G ⟨s4, s5, s10, s11, rfl, hk, ok⟩
        exact kQ _
    · -- the three turns
      refine ⟨3, rfl, by decide, by decide, for_range (lo := 0) (n := 3) (fun i σ H' => ∃ (its : List Ite) (s3 s5 s6 s7 s8 s9 s10 : Option V), σ = [some (.ref sc), some (.ref a), some (.ref kp), s3, none, s5, s6, s7, s8, s9, s10, none] ∧ its.length = i ∧
        Strm H' a l (300 * i) ∧ H' kp = some (.lst (its.map fun x => .ref x.tp)) ∧ (∀ x ∈ its, IteOk K c (rem [a, l, kp] H') x 1300 3) ∧ Sep kp its) ?_ ?_ ?_⟩
      · exact ⟨[], none, none, none, none, none, none, none, rfl, rfl, S2, by rw [e2]; exact upd_same, fun _ h => absurd h List.not_mem_nil, ⟨fun _ h => absurd h List.not_mem_nil, fun _ h => absurd h List.not_mem_nil⟩⟩
      · rintro i σ H0 hi ⟨its, s3, s5, s6, s7, s8, s9, s10, rfl, hlen, S0, hk0, ok0, sep0⟩
        -- things = [thing(stream, 3) for k in range(3)]
        refine nm ?_
        refine ⟨3, rfl, by decide, by decide, fun D hD => ?_⟩
        have hDa : D ≠ a ∧ D ≠ l := ⟨fun e => S0.dom.1 (e ▸ hD), fun e => S0.dom.2 (e ▸ hD)⟩
        have hDk : D ≠ kp := fun e => by
          rw [← e, hD] at hk0
          cases hk0
        obtain ⟨HD, eD⟩ : ∃ HD, HD = upd H0 D (.lst []) := ⟨_, rfl⟩
        have sD : Same H0 HD := by rw [eD]; exact same_new hD
        have SD : Strm HD a l (300 * i) := by rw [eD]; exact S0.new hD
        have hDD : HD D = some (.lst []) := by rw [eD]; exact upd_same
        have inHD : ∀ b, HD b = none → b ≠ a ∧ b ≠ l ∧ b ≠ D ∧ b ≠ kp := fun b hb => ⟨fun e => SD.dom.1 (e ▸ hb), fun e => SD.dom.2 (e ▸ hb), (fun e => by
          rw [e, hDD] at hb
          cases hb), (fun e => by
          rw [e, sD _ _ hk0] at hb
          cases hb)⟩
        refine lc_range (lo := 0) (n := 3) (fun j H' => ∃ vs, H' D = some (.lst vs) ∧ vs.length = j ∧ Strm H' a l (300 * i + 80 * j) ∧ (∀ b o, HD b = some o → b ≠ a → b ≠ l → b ≠ D → H' b = some o) ∧
            ∀ v ∈ vs, Th K (nw HD H') v 3) ?_ ?_ ?_
        · rw [← eD]
          exact ⟨[], hDD, rfl, SD, fun b o e _ _ _ => e, fun _ h => absurd h List.not_mem_nil⟩
        · rintro j H' hj ⟨vs, hDv, hl, S', kpp, th⟩
          refine ⟨rfl, yes ?_⟩
          refine ⟨_, rfl, a, l, 300 * i + 80 * j, rfl, by show _ + 80 ≤ 4000000; omega, S', fun v H'' S'' nx'' t => ?_⟩
          have domHD : ∀ b, H' b = none → HD b = none := fun b hb => by
            cases q : HD b with
            | none => rfl
            | some o =>
              by_cases h1 : b = a
              · rw [h1] at hb
                exact absurd hb S'.dom.1
              · by_cases h2 : b = l
                · rw [h2] at hb
                  exact absurd hb S'.dom.2
                · by_cases h3 : b = D
                  · rw [h3, hDv] at hb
                    cases hb
                  · rw [kpp b o q h1 h2 h3] at hb
                    cases hb
          have S3 : Strm H'' a l (300 * i + 80 * (j + 1)) := S''.mono (by show _ + 80 ≤ _; omega)
          refine ⟨vs, nx''.get hDv hDa.1 hDa.2, (by rw [sizeLine_eq]; omega), vs ++ [v], upd_same, by simp [hl], S3.keep (upd_ne (Ne.symm hDa.1)) (upd_ne (Ne.symm hDa.2)), ?_, ?_⟩
          · intro b o e h1 h2 h3
            rw [upd_ne h3]
            exact nx''.get (kpp b o e h1 h2 h3) h1 h2
          · have e1 : Same (nw HD H') (nw HD (upd H'' D (.lst (vs ++ [v])))) := nw_same (fun b h _ => h) fun b o h1 h2 => by
              obtain ⟨z1, z2, z3, _⟩ := inHD b h1
              rw [upd_ne z3]
              exact nx''.get h2 z1 z2
            have e2 : Same (nw H' H'') (nw HD (upd H'' D (.lst (vs ++ [v])))) := nw_same (fun b h _ => domHD b h) fun b o h1 h2 => by
              rw [upd_ne (inHD b (domHD b h1)).2.2.1]
              exact h2
            intro u hu
            rcases List.mem_append.mp hu with hu | hu
            · exact (th u hu).same e1
            · rw [List.mem_singleton.mp hu]
              exact t.same e2
        · rintro H3 ⟨vs, hDv, hl, S3, kpp, th⟩
          obtain ⟨v0, v1, v2, rfl⟩ : ∃ v0 v1 v2, vs = [v0, v1, v2] := by
            match vs, hl with
            | [x, y, z], _ => exact ⟨x, y, z, rfl⟩
          have th0 := th v0 (by simp)
          have th1 := th v1 (by simp)
          have th2 := th v2 (by simp)
          refine nm ?_
          dsimp only
          -- if draw(stream, 2) == 0: things[0] = [things[0], "a"]
          refine seq_if (fun σ H4 => ∃ u0, σ = [some (.ref sc), some (.ref a), some (.ref kp), some (.int (0 + i)), none, some (.ref D), s6, s7, s8, s9, s10, none] ∧ H4 D = some (.lst [u0, v1, v2]) ∧ Strm H4 a l (300 * i + 241) ∧
            (∀ b o, HD b = some o → b ≠ a → b ≠ l → b ≠ D → H4 b = some o) ∧ Rep K (nw HD H4) u0 5 1250 ∧ Top (nw HD H4) u0 3 ∧ Rep K (nw HD H4) v1 5 1250 ∧ Rep K (nw HD H4) v2 5 1250) ?_ (fun fin2 => ?_)
          · rintro σ H4 ⟨u0, rfl, hD4, S4, kp4, ⟨d0, dp0, pl0⟩, top0, ⟨d1, dp1, pl1⟩, ⟨d2, dp2, pl2⟩⟩
            have hk4 : H4 kp = some (.lst (its.map fun x => .ref x.tp)) := kp4 _ _ (sD _ _ hk0) hka.1 hka.2 (Ne.symm hDk)
            have pl : Plain (.list [d0, d1, d2]) 6 4000 := (plain_list (PlainAll.cons pl0 (PlainAll.cons pl1 (PlainAll.cons pl2 (PlainAll.nil (m := 0)))))).mono (Nat.le_refl _) (by decide)
            have dpD : ∀ {G : Hp}, Same (nw HD H4) G → G D = some (.lst [u0, v1, v2]) → Dp K G (.ref D) (.list [d0, d1, d2]) := fun s h => .lst (SqL.of h) (.cons (dp_same s _ _ dp0) (.cons (dp_same s _ _ dp1) (.cons (dp_same s _ _ dp2) .nil)))
            have hz : (PyData.list [d0, d1, d2]).shown.length ≤ sizeLine := by
              have h1 := shown_le _ pl.nd
              have h2 := pl.tx
              rw [sizeLine_eq]
              omega
            have hdep : (PyData.list [d0, d1, d2]).depth ≤ 60 := Nat.le_trans pl.dp (by decide)
            refine ⟨_, rfl, D, _, rfl, dpD nw_sub hD4, pl.sh, pl.nd, hdep, hz, ?_⟩
            -- one, two, three = things
            refine ⟨_, rfl, D, _, rfl, SqL.of hD4, rfl, _, _, rfl, _, _, rfl, _, _, rfl, rfl, ?_⟩
            dsimp only
            -- made_here = ..
            refine seq_split (fun σ H5 => ∃ (md : Addr) (es : List V), σ = [some (.ref sc), some (.ref a), some (.ref kp), some (.int (0 + i)), none, some (.ref D), some (.str (PyData.list [d0, d1, d2]).shown), some u0, some v1, some v2, some (.ref md), none] ∧
              Strm H5 a l (300 * i + 242) ∧ (∀ b o, H4 b = some o → b ≠ a → b ≠ l → H5 b = some o) ∧ H4 md = none ∧ H5 md = some (.lst es) ∧ Errs c (rem [a, l, kp] H5) es u0 v1 v2) ?_ (fun fin3 => ?_)
            · rintro σ H5 ⟨md, es, rfl, S5, kp5, mdn, hmd, er⟩
              have hk5 := kp5 _ _ hk4 hka.1 hka.2
              have hD5 := kp5 _ _ hD4 hDa.1 hDa.2
              have n45 : Same (nw HD H4) H5 := fun b o e => by
                obtain ⟨g1, g2⟩ := of_nw e
                exact kp5 b o g2 (inHD b g1).1 (inHD b g1).2.1
              -- kept.append((made_here, things))
              refine ⟨_, rfl, .inl ⟨rfl, _, SqL.of hk5⟩, _, rfl, _, rfl, (by show 2 ≤ sizeLine; decide), fun tp htp => ?_⟩
              have htpa : tp ≠ a ∧ tp ≠ l := ⟨fun e => S5.dom.1 (e ▸ htp), fun e => S5.dom.2 (e ▸ htp)⟩
              have htk : kp ≠ tp := ne_of_none hk5 htp
              refine ⟨kp, _, _, rfl, rfl, (by rw [upd_ne htk]; exact hk5), (by rw [List.length_map, hlen, sizeLine_eq]; omega), ?_⟩
              obtain ⟨H6, e6⟩ : ∃ H6, H6 = upd (upd H5 tp (.tup [.ref md, .ref D])) kp (.lst ((its.map fun x => .ref x.tp) ++ [.ref tp])) := ⟨_, rfl⟩
              rw [← e6]
              have s56 : ∀ b o, H5 b = some o → b ≠ kp → H6 b = some o := fun b o e h => by rw [e6, upd_ne h, upd_ne (ne_of_none e htp)]; exact e
              have hD6 : H6 D = some (.lst [u0, v1, v2]) := s56 _ _ hD5 hDk
              have hkmd : md ≠ kp := fun e => by
                rw [e, hk4] at mdn
                cases mdn
              have n46 : Same (nw HD H4) H6 := fun b o e => s56 b o (n45 b o e) (inHD b (of_nw e).1).2.2.2
              -- the text is the same
              refine ⟨_, rfl, D, _, rfl, dpD n46 hD6, pl.sh, pl.nd, hdep, hz, _, rfl, rfl, _, rfl, ?_⟩
              refine if0 (by rw [decide_eq_true rfl]; rfl) ?_
              have toG : ∀ {b : Addr} {o : HO}, H6 b = some o → b ≠ a → b ≠ l → b ≠ kp → rem [a, l, kp] H6 b = some o := fun h h1 h2 h3 => rem_of h (by simp [h1, h2, h3])
              have r56 : Same (rem [a, l, kp] H5) (rem [a, l, kp] H6) := rem_same fun b o e h => s56 b o e (by simp at h; exact h.2.2)
              have n46r : Same (nw HD H4) (rem [a, l, kp] H6) := fun b o e => by
                obtain ⟨z1, z2, _, z4⟩ := inHD b (of_nw e).1
                exact toG (n46 b o e) z1 z2 z4
              have r06 : Same (rem [a, l, kp] H0) (rem [a, l, kp] H6) := rem_same fun b o e h => by
                simp at h
                have hbD : b ≠ D := ne_of_none e hD
                exact s56 b o (kp5 b o (kp4 b o (sD b o e) h.1 h.2.1 hbD) h.1 h.2.1) h.2.2
              have mda : md ≠ a ∧ md ≠ l := ⟨fun e => S4.dom.1 (e ▸ mdn), fun e => S4.dom.2 (e ▸ mdn)⟩
              -- what stands at the top of u0 is new
              have u0n : ∀ b, u0 = .ref b → HD b = none ∧ H4 b ≠ none := fun b e => by
                rcases top0 with h | ⟨b', xs, h, h'⟩
                · exact absurd e (h b)
                · rw [e] at h
                  cases h
                  rcases h' with h' | h'
                  · exact ⟨(of_nw h'.1).1, by rw [(of_nw h'.1).2]; exact nofun⟩
                  · exact ⟨(of_nw h').1, by rw [(of_nw h').2]; exact nofun⟩
              have new : IteOk K c (rem [a, l, kp] H6) ⟨tp, D, md, u0, v1, v2⟩ 1300 3 := by
                refine ⟨toG ?_ htpa.1 htpa.2 (Ne.symm htk), toG hD6 hDa.1 hDa.2 hDk, ⟨es, toG (s56 _ _ hmd hkmd) mda.1 mda.2 hkmd, er.same r56⟩, ⟨d0, dp_same n46r _ _ dp0, pl0.mono (by decide) (by decide)⟩, ⟨d1, dp_same n46r _ _ dp1, pl1.mono (by decide) (by decide)⟩,
                  ⟨d2, dp_same n46r _ _ dp2, pl2.mono (by decide) (by decide)⟩, top0.same n46r⟩
                rw [e6, upd_ne (Ne.symm htk), upd_same]
              refine ⟨its ++ [⟨tp, D, md, u0, v1, v2⟩], _, _, _, _, _, _, _, rfl, by simp [hlen], ?_, ?_, ?_, ?_⟩
              · refine (S5.keep ?_ ?_).mono (by omega)
                · rw [e6, upd_ne (Ne.symm hka.1), upd_ne (Ne.symm htpa.1)]
                · rw [e6, upd_ne (Ne.symm hka.2), upd_ne (Ne.symm htpa.2)]
              · rw [e6, upd_same, List.map_append]
                rfl
              · intro x hx
                rcases List.mem_append.mp hx with hx | hx
                · exact (ok0 x hx).same r06
                · rw [List.mem_singleton.mp hx]
                  exact new
              · -- the old ones stand in H0, the new ones don't
                have old : ∀ x ∈ its, (H0 x.tl ≠ none ∧ H0 x.md ≠ none) ∧ ∀ b, x.v0 = .ref b → H0 b ≠ none := fun x hx => by
                  have o := ok0 x hx
                  refine ⟨⟨by rw [(of_rem o.tl).2]; exact nofun, ?_⟩, fun b e => ?_⟩
                  · obtain ⟨es', h1, _⟩ := o.md
                    rw [(of_rem h1).2]
                    exact nofun
                  · rcases o.top with h | ⟨b', xs, h, h'⟩
                    · exact absurd e (h b)
                    · rw [e] at h
                      cases h
                      rcases h' with h' | h'
                      · rw [(of_rem h'.1).2]; exact nofun
                      · rw [(of_rem h').2]; exact nofun
                have h0D : ∀ b, HD b = none → H0 b = none := fun b h => sD.free h
                have h04 : ∀ b, H0 b ≠ none → b ≠ a → b ≠ l → H4 b ≠ none := fun b h h1 h2 => by
                  cases q : H0 b with
                  | none => exact absurd q h
                  | some o => rw [kp4 b o (sD b o q) h1 h2 (ne_of_none q hD)]; exact nofun
                refine ⟨fun x hx y hy => ?_, fun x hx => ?_⟩
                · rcases List.mem_append.mp hx with hx | hx
                  · rcases List.mem_append.mp hy with hy | hy
                    · exact sep0.sep x hx y hy
                    · rw [List.mem_singleton.mp hy]
                      refine ⟨fun e => ?_, fun e => ?_⟩
                      · exact (old x hx).2 D e hD
                      · exact h04 md ((old x hx).2 md e) mda.1 mda.2 mdn
                  · rw [List.mem_singleton.mp hx]
                    rcases List.mem_append.mp hy with hy | hy
                    · refine ⟨fun e => ?_, fun e => ?_⟩
                      · exact (old y hy).1.1 (h0D _ (u0n _ e).1)
                      · exact (old y hy).1.2 (h0D _ (u0n _ e).1)
                    · rw [List.mem_singleton.mp hy]
                      refine ⟨fun e => ?_, fun e => ?_⟩
                      · exact absurd (u0n _ e).1 (by rw [hDD]; exact nofun)
                      · exact (u0n _ e).2 mdn
                · rcases List.mem_append.mp hx with hx | hx
                  · exact sep0.kept x hx
                  · rw [List.mem_singleton.mp hx]
                    exact fun e => (inHD kp (u0n _ e).1).2.2.2 rfl
            · refine ⟨_, rfl, a, l, 2, 300 * i + 241, rfl, by decide, by decide, by omega, S4, fun r H5 r0 r1 S5 nx5 => ?_⟩
              have done : ∀ (H6 : Hp) (md : Addr) (es : List V), Same H5 H6 → H5 md = none → H6 md = some (.lst es) → Errs c H6 es u0 v1 v2 → _ := fun H6 md es s6 m0 m1 er => fin3 [some (.ref sc), some (.ref a), some (.ref kp), some (.int (0 + i)), none, some (.ref D), some (.str (PyData.list [d0, d1, d2]).shown), some u0, some v1, some v2, some (.ref md), none] H6
                ⟨md, es, rfl, strm_same S5 s6, fun b o e h1 h2 => s6 b o (nx5.get e h1 h2), nx5.free S5 m0, m1, errs_rem er (strm_lst (strm_same S5 s6)) ⟨_, s6 _ _ (nx5.get hk4 hka.1 hka.2)⟩⟩
              refine ⟨rfl, _, rfl, ?_⟩
              by_cases cc : V.int r = V.int 0
              · refine if1 (decide_eq_true cc) ?_
                exact ⟨_, rfl, _, rfl, _, rfl, u0, v1, v2, rfl, fun H6 md es s6 m0 m1 er => done H6 md es s6 m0 m1 er⟩
              · refine if0 (decide_eq_false cc) ?_
                exact ⟨_, rfl, _, rfl, _, rfl, u0, v1, v2, rfl, fun H6 md es s6 m0 m1 er => done H6 md es s6 m0 m1 er⟩
          · refine ⟨_, rfl, a, l, 2, 300 * i + 80 * 3, rfl, by decide, by decide, by omega, S3, fun r H4 r0 r1 S4 nx4 => ?_⟩
            have e34 : Same (nw HD H3) (nw HD H4) := nw_same (fun b h _ => h) fun b o h1 h2 => nx4.get h2 (inHD b h1).1 (inHD b h1).2.1
            have hD4 : H4 D = some (.lst [v0, v1, v2]) := nx4.get hDv hDa.1 hDa.2
            have kp4 : ∀ b o, HD b = some o → b ≠ a → b ≠ l → b ≠ D → H4 b = some o := fun b o e h1 h2 h3 => nx4.get (kpp b o e h1 h2 h3) h1 h2
            have w3 : wide 3 = 1197 := rfl
            have rr : ∀ {v : V}, Th K (nw HD H3) v 3 → Rep K (nw HD H4) v 5 1250 := fun t => ((t.same e34).rep).mono (by decide) (by decide)
            refine ⟨rfl, _, rfl, ?_⟩
            by_cases cc : V.int r = V.int 0
            · refine if1 (decide_eq_true cc) ?_
              refine ⟨_, rfl, D, _, _, _, rfl, rfl, SqL.of hD4, rfl, (by show 2 ≤ sizeLine; decide), fun p hp => ?_⟩
              have hpa : p ≠ a ∧ p ≠ l := ⟨fun e => S4.dom.1 (e ▸ hp), fun e => S4.dom.2 (e ▸ hp)⟩
              have hpD : D ≠ p := ne_of_none hD4 hp
              have hpn : HD p = none := by
                cases q : HD p with
                | none => rfl
                | some o =>
                  rw [kp4 p o q hpa.1 hpa.2 (Ne.symm hpD)] at hp
                  cases hp
              refine ⟨_, rfl, D, [v0, v1, v2], _, 0, rfl, rfl, ?_, rfl, ?_⟩
              · rw [upd_ne hpD]
                exact hD4
              obtain ⟨H5, e5⟩ : ∃ H5, H5 = upd (upd H4 p (.lst [v0, .str "a"])) D (.lst ([v0, v1, v2].set 0 (.ref p))) := ⟨_, rfl⟩
              rw [← e5]
              have s45 : ∀ b o, H4 b = some o → b ≠ D → H5 b = some o := fun b o e h => by rw [e5, upd_ne h, upd_ne (ne_of_none e hp)]; exact e
              have n45 : Same (nw HD H4) (nw HD H5) := nw_same (fun b h _ => h) fun b o h1 h2 => s45 b o h2 (inHD b h1).2.2.1
              have hp5 : nw HD H5 p = some (.lst [v0, .str "a"]) := nw_of hpn (by rw [e5, upd_ne (Ne.symm hpD), upd_same])
              refine fin2 _ _ ⟨.ref p, rfl, by rw [e5]; exact upd_same, ?_, fun b o e h1 h2 h3 => s45 b o (kp4 b o e h1 h2 h3) h3, ?_, Or.inr ⟨p, _, rfl, Or.inl ⟨hp5, by simp⟩⟩, (rr th1).same n45, (rr th2).same n45⟩
              · refine (S4.keep ?_ ?_).mono (by omega)
                · rw [e5, upd_ne (Ne.symm hDa.1), upd_ne (Ne.symm hpa.1)]
                · rw [e5, upd_ne (Ne.symm hDa.2), upd_ne (Ne.symm hpa.2)]
              · refine (rep_list (n := 4) (SqL.of hp5) (RepAll.cons (((th0.same e34).rep.mono (Nat.le_refl _) (by decide)).same n45 : Rep K (nw HD H5) v0 4 1197) (RepAll.cons (rep_str (m := 3) (by decide +kernel)) (RepAll.nil (m := 0))))).mono (Nat.le_refl _) (by decide)
            · refine if0 (decide_eq_false cc) ?_
              exact fin2 _ _ ⟨v0, rfl, hD4, S4.mono (by omega), kp4, rr th0, (th0.same e34).top, rr th1, rr th2⟩
      · rintro σ H' ⟨its, s3, s5, s6, s7, s8, s9, s10, rfl, hlen, S', hk, ok, sep⟩
        exact fin _ _ ⟨its, s3, s5, s6, s7, s8, s9, s10, rfl, hlen, hk, ok, sep⟩
end
end K01

namespace K01
open PySem L2 Tq
theorem kt_mk {K : PySem.W.Frag} {h : Heap} {mg : Str → Option Value} {TE : Addr} {q : Str} {N : Addr} {bs bm : List Value} {hd : Bool} {sn : List Str} {sub : List Value} {ab : Bool} {col : Option Bool} {dd : Option Addr}
    {k0 k1 k2 k3 k5 : Option Value} (X : K.In h) (G : h.Ns mainGlobals mg) (a : PySem.W.nsIn K mainGlobals "TreeError" = some (some (.ref TE)))
    (l : K.lookup TE = some (excClassObj "TreeError" q TE N bs bm hd sn sub ab col dd k0 k1 k2 k3 k5 "ValueError.__new__")) (t : PySem.W.typeIn K (.ref TE) = some (.type "type")) : KT K mg TE := by
  refine ⟨PySem.W.mg_of X G a, ?_, t, ⟨_, l, fun nm q' N' bs' bm' h' sn' sub' ab' col' dd' k0' k1' k2' k3' k5' e => ?_⟩⟩
  · unfold PySem.W.clsIn
    rw [l]
    rfl
  · have e2 := congrArg (·.data) e
    simp only [excClassObj] at e2
    injection e2 with e2
    injection e2 with e2
    exact e2.symm
theorem all1 {P : Str → Prop} {x : Str} (h : P x) : ∀ f ∈ [x], P f := fun f hf => by rw [List.mem_singleton.mp hf]; exact h
theorem all2 {P : Str → Prop} {x y : Str} (h : P x) (h2 : P y) : ∀ f ∈ [x, y], P f := fun f hf => by
  rcases List.mem_cons.mp hf with e | e
  · rw [e]; exact h
  · exact all1 h2 f e
theorem all3 {P : Str → Prop} {x y z : Str} (h : P x) (h2 : P y) (h3 : P z) : ∀ f ∈ [x, y, z], P f := fun f hf => by
  rcases List.mem_cons.mp hf with e | e
  · rw [e]; exact h
  · exact all2 h2 h3 f e
theorem all01 {l : PySem.W.OpenLaw} {w : World} {K : PySem.W.Frag} {h : Heap} {mg : Str → Option Value} {fa TE : Addr} {c0 c1 c2 c3 c4 c5 c6 c7 c8 c9 c10 : Addr} (X : K.In h) (G : h.Ns mainGlobals mg) (hfa : mg "law" = some (.ref fa))
    (n_int : PySem.W.nsIn K mainGlobals "int" = some none)
    (n_len : PySem.W.nsIn K mainGlobals "len" = some none)
    (n_list : PySem.W.nsIn K mainGlobals "list" = some none)
    (n_tuple : PySem.W.nsIn K mainGlobals "tuple" = some none)
    (n_repr : PySem.W.nsIn K mainGlobals "repr" = some none)
    (n_range : PySem.W.nsIn K mainGlobals "range" = some none)
    (n_isinstance : PySem.W.nsIn K mainGlobals "isinstance" = some none)
    (n_ValueError : PySem.W.nsIn K mainGlobals "ValueError" = some none)
    (te : KT K mg TE)
    (k0 : Kl K mg "BadNode" c0 TE)
    (k1 : Kl K mg "BadPlace" c1 TE)
    (k2 : Kl K mg "BadFloat" c2 TE)
    (k3 : Kl K mg "BadKind" c3 TE)
    (k4 : Kl K mg "BadMode" c4 TE)
    (k5 : Kl K mg "NoText" c5 TE)
    (k6 : Kl K mg "NotLiteral" c6 TE)
    (k7 : Kl K mg "BadField" c7 TE)
    (k8 : Kl K mg "BadText" c8 TE)
    (k9 : Kl K mg "BadChange" c9 TE)
    (k10 : Kl K mg "BadScope" c10 TE)
    (q0 : PySem.W.excIn K c0 [.type "ValueError", .type "Exception", .type "BaseException", .type "object"] "ValueError.__new__" = true)
    (q1 : PySem.W.excIn K c1 [.type "ValueError", .type "Exception", .type "BaseException", .type "object"] "ValueError.__new__" = true)
    (q2 : PySem.W.excIn K c2 [.type "ValueError", .type "Exception", .type "BaseException", .type "object"] "ValueError.__new__" = true)
    (i3 : In1 K c3 "BadKind.__init__" sBadKind ["kind"])
    (i4 : In1 K c4 "BadMode.__init__" sBadMode ["mode"])
    (i5 : In1 K c5 "NoText.__init__" sNoText ["path"])
    (i6 : In1 K c6 "NotLiteral.__init__" sNotLiteral ["path"])
    (i7 : In1 K c7 "BadField.__init__" sBadField ["kind", "name"])
    (i8 : In1 K c8 "BadText.__init__" sBadText ["lineno", "col_offset"])
    (i9 : In1 K c9 "BadChange.__init__" sBadChange ["kind", "name"])
    (i10 : In1 K c10 "BadScope.__init__" sBadScope ["name", "lineno", "col_offset"])
    (f_law_draw : Fn1 K mg "_law_draw" s_law_draw)
    (f_law_pick : Fn1 K mg "_law_pick" s_law_pick)
    (f_law_thing : Fn1 K mg "_law_thing" s_law_thing)
    (f_law_made : Fn1 K mg "_law_made" s_law_made)
    (f_law_named : Fn1 K mg "_law_named" s_law_named)
    (f_law_fields : Fn1 K mg "_law_fields" s_law_fields)
    (f_law_kinds : Fn1 K mg "_law_kinds" s_law_kinds)
    (flaw : Fn1 K mg "law" slaw)
    : ∃ fd : FuncData, (∀ (s : Shared) (u : Value), BindsTo s fd ⟨[u], []⟩ [("_law_script", u)]) ∧ ∀ base : Heap, K.In base → base.Ns mainGlobals mg → FnG l.prog w K mg base CX0 7 fa fd ["_law_script"] (spLaw K) := by
  have tx : Txt mg := ⟨PySem.W.mg_none_of X G n_int, PySem.W.mg_none_of X G n_len, PySem.W.mg_none_of X G n_list, PySem.W.mg_none_of X G n_tuple, PySem.W.mg_none_of X G n_repr, PySem.W.mg_none_of X G n_range, PySem.W.mg_none_of X G n_isinstance⟩
  obtain ⟨f, fd, hm, F⟩ := flaw.ex
  have e := hfa.symm.trans hm
  cases e
  refine ⟨fd, fun s u => ?_, fun base _ _ => ?_⟩
  · obtain ⟨oc, od, kV, doc, pm, an, cdv, ct, osl, rfl, lk, hcd⟩ := F.ex
    exact .of_eq rfl
  · have T : Cls l.prog w K mg base (fun n => [c0, c1, c2, c3, c4, c5, c6, c7, c8, c9, c10].getD n 0) TE := ⟨PySem.W.mg_none_of X G n_isinstance, PySem.W.mg_none_of X G n_range, PySem.W.mg_none_of X G n_list, PySem.W.mg_none_of X G n_repr, PySem.W.mg_none_of X G n_ValueError, te, k0, k1, k2, k3, k4, k5, k6, k7, k8, k9, k10, q0, q1, q2, mkBadKind i3, mkBadMode i4, mkNoText i5, mkNotLiteral i6, mkBadField i7, mkBadText i8, mkBadChange i9, mkBadScope i10⟩
    have D_law_draw : Df l.prog w K mg base CX0 1 "_law_draw" spDraw := df_of (ps := ["_law_stream", "_law_many"]) f_law_draw (fun _ _ _ _ _ _ us hl => match us, hl with | [_, _], _ => rfl) fun f fd F => ok_draw F tx
    have D_law_pick : Df l.prog w K mg base CX0 2 "_law_pick" (spPick K) := df_of (ps := ["_law_stream", "_law_some"]) f_law_pick (fun _ _ _ _ _ _ us hl => match us, hl with | [_, _], _ => rfl) fun f fd F => ok_pick F tx D_law_draw
    have th : ∀ n, Df l.prog w K mg base CX0 (n + 2) "_law_thing" (spThing K n) := by
      intro n
      induction n with
      | zero => exact df_of (ps := ["_law_stream", "_law_deep"]) f_law_thing (fun _ _ _ _ _ _ us hl => match us, hl with | [_, _], _ => rfl) fun f fd F => ⟨fun vs H Q E h => h.elim, fun A o s H a us vs Q E _ _ _ _ _ h => h.elim⟩
      | succ n ih => exact df_of (ps := ["_law_stream", "_law_deep"]) f_law_thing (fun _ _ _ _ _ _ us hl => match us, hl with | [_, _], _ => rfl) fun f fd F => ok_thing F tx D_law_draw D_law_pick ih
    have D_law_made : Df l.prog w K mg base CX0 4 "_law_made" (spMade _) := df_of (ps := ["_law_one", "_law_two", "_law_three"]) f_law_made (fun _ _ _ _ _ _ us hl => match us, hl with | [_, _, _], _ => rfl) fun f fd F => ok_made F T
    have D_law_named : Df l.prog w K mg base CX0 4 "_law_named" (spMade _) := df_of (ps := ["_law_one", "_law_two", "_law_three"]) f_law_named (fun _ _ _ _ _ _ us hl => match us, hl with | [_, _, _], _ => rfl) fun f fd F => ok_named F T
    have D_law_fields : Df l.prog w K mg base CX0 1 "_law_fields" (spFields _) := df_of (ps := ["_law_k", "_law_e"]) f_law_fields (fun _ _ _ _ _ _ us hl => match us, hl with | [_, _], _ => rfl) fun f fd F => ok_fields F T
    have D_law_kinds : Df l.prog w K mg base CX0 1 "_law_kinds" (spKinds _) := df_of (ps := ["_law_e"]) f_law_kinds (fun _ _ _ _ _ _ us hl => match us, hl with | [_], _ => rfl) fun f fd F => ok_kinds F T
    exact ok_law F T D_law_draw (th 4) D_law_made D_law_named D_law_fields D_law_kinds
end K01
open PySem PySem.W PyProof.Rows
set_option maxRecDepth 100000 in
set_option maxHeartbeats 0 in
theorem PySem.Challenge.cw_treequill_k01_errors_made_holds : PySem.Challenge.rw_treequill_k01_errors_made.Holds := by
  w_on; o_law; k_head; (case hw => w_witness2)
  k_fill
  refine Tq.walkG (l := PySem.Challenge.rw_treequill_k01_errors_made) (n := 63) (k := 7) (x := "_law_script") (CX := fun _ => L2.CX0) (sp := K01.spLaw) rfl (by decide) rfl ⟨rfl, by decide, by decide⟩ (fun w h Y => PySem.W.kIn_of Y) ?F
    (fun K H a ns hl _ hS => ⟨a, ns, rfl, hS, hl, fun _ => rfl⟩) (fun _ _ _ _ _ z => z)
  case F =>
    intro w mg fa h KX G hmg
    refine' K01.all01 KX G hmg ?n_int ?n_len ?n_list ?n_tuple ?n_repr ?n_range ?n_isinstance ?n_ValueError (K01.kt_mk KX G ?te_a ?te_l ?te_t) (Tq.kl_mk KX G ?k0_a ?k0_l ?k0_h1 ?k0_h2 ?k0_h3 ?k0_h4 ?k0_h5 ?k0_h6 ?k0_h7 ?k0_h8 ?k0_sa ?k0_ty ?k0_kp) (Tq.kl_mk KX G ?k1_a ?k1_l ?k1_h1 ?k1_h2 ?k1_h3 ?k1_h4 ?k1_h5 ?k1_h6 ?k1_h7 ?k1_h8 ?k1_sa ?k1_ty ?k1_kp) (Tq.kl_mk KX G ?k2_a ?k2_l ?k2_h1 ?k2_h2 ?k2_h3 ?k2_h4 ?k2_h5 ?k2_h6 ?k2_h7 ?k2_h8 ?k2_sa ?k2_ty ?k2_kp) (Tq.kl_mk KX G ?k3_a ?k3_l ?k3_h1 ?k3_h2 ?k3_h3 ?k3_h4 ?k3_h5 ?k3_h6 ?k3_h7 ?k3_h8 ?k3_sa ?k3_ty ?k3_kp) (Tq.kl_mk KX G ?k4_a ?k4_l ?k4_h1 ?k4_h2 ?k4_h3 ?k4_h4 ?k4_h5 ?k4_h6 ?k4_h7 ?k4_h8 ?k4_sa ?k4_ty ?k4_kp) (Tq.kl_mk KX G ?k5_a ?k5_l ?k5_h1 ?k5_h2 ?k5_h3 ?k5_h4 ?k5_h5 ?k5_h6 ?k5_h7 ?k5_h8 ?k5_sa ?k5_ty ?k5_kp) (Tq.kl_mk KX G ?k6_a ?k6_l ?k6_h1 ?k6_h2 ?k6_h3 ?k6_h4 ?k6_h5 ?k6_h6 ?k6_h7 ?k6_h8 ?k6_sa ?k6_ty ?k6_kp) (Tq.kl_mk KX G ?k7_a ?k7_l ?k7_h1 ?k7_h2 ?k7_h3 ?k7_h4 ?k7_h5 ?k7_h6 ?k7_h7 ?k7_h8 ?k7_sa ?k7_ty ?k7_kp) (Tq.kl_mk KX G ?k8_a ?k8_l ?k8_h1 ?k8_h2 ?k8_h3 ?k8_h4 ?k8_h5 ?k8_h6 ?k8_h7 ?k8_h8 ?k8_sa ?k8_ty ?k8_kp) (Tq.kl_mk KX G ?k9_a ?k9_l ?k9_h1 ?k9_h2 ?k9_h3 ?k9_h4 ?k9_h5 ?k9_h6 ?k9_h7 ?k9_h8 ?k9_sa ?k9_ty ?k9_kp) (Tq.kl_mk KX G ?k10_a ?k10_l ?k10_h1 ?k10_h2 ?k10_h3 ?k10_h4 ?k10_h5 ?k10_h6 ?k10_h7 ?k10_h8 ?k10_sa ?k10_ty ?k10_kp) ?q0 ?q1 ?q2 (Tq.in1_mk ?i3_a ?i3_t ?i3_l ?i3_c ?i3_k (K01.all1 ?i3_n0)) (Tq.in1_mk ?i4_a ?i4_t ?i4_l ?i4_c ?i4_k (K01.all1 ?i4_n0)) (Tq.in1_mk ?i5_a ?i5_t ?i5_l ?i5_c ?i5_k (K01.all1 ?i5_n0)) (Tq.in1_mk ?i6_a ?i6_t ?i6_l ?i6_c ?i6_k (K01.all1 ?i6_n0)) (Tq.in1_mk ?i7_a ?i7_t ?i7_l ?i7_c ?i7_k (K01.all2 ?i7_n0 ?i7_n1)) (Tq.in1_mk ?i8_a ?i8_t ?i8_l ?i8_c ?i8_k (K01.all2 ?i8_n0 ?i8_n1)) (Tq.in1_mk ?i9_a ?i9_t ?i9_l ?i9_c ?i9_k (K01.all2 ?i9_n0 ?i9_n1)) (Tq.in1_mk ?i10_a ?i10_t ?i10_l ?i10_c ?i10_k (K01.all3 ?i10_n0 ?i10_n1 ?i10_n2)) (Tq.fn1 KX G ?f_law_draw_a ?f_law_draw_l ?f_law_draw_c ?f_law_draw_k) (Tq.fn1 KX G ?f_law_pick_a ?f_law_pick_l ?f_law_pick_c ?f_law_pick_k) (Tq.fn1 KX G ?f_law_thing_a ?f_law_thing_l ?f_law_thing_c ?f_law_thing_k) (Tq.fn1 KX G ?f_law_made_a ?f_law_made_l ?f_law_made_c ?f_law_made_k) (Tq.fn1 KX G ?f_law_named_a ?f_law_named_l ?f_law_named_c ?f_law_named_k) (Tq.fn1 KX G ?f_law_fields_a ?f_law_fields_l ?f_law_fields_c ?f_law_fields_k) (Tq.fn1 KX G ?f_law_kinds_a ?f_law_kinds_l ?f_law_kinds_c ?f_law_kinds_k) (Tq.fn1 KX G ?flaw_a ?flaw_l ?flaw_c ?flaw_k)
    (case te_a => k_is)
    (case k0_a => k_is)
    (case k1_a => k_is)
    (case k2_a => k_is)
    (case k3_a => k_is)
    (case k4_a => k_is)
    (case k5_a => k_is)
    (case k6_a => k_is)
    (case k7_a => k_is)
    (case k8_a => k_is)
    (case k9_a => k_is)
    (case k10_a => k_is)
    (case i3_a => k_is)
    (case i4_a => k_is)
    (case i5_a => k_is)
    (case i6_a => k_is)
    (case i7_a => k_is)
    (case i8_a => k_is)
    (case i9_a => k_is)
    (case i10_a => k_is)
    (case f_law_draw_a => k_is)
    (case f_law_pick_a => k_is)
    (case f_law_thing_a => k_is)
    (case f_law_made_a => k_is)
    (case f_law_named_a => k_is)
    (case f_law_fields_a => k_is)
    (case f_law_kinds_a => k_is)
    (case flaw_a => k_is)
    (case n_int => k_is)
    (case n_len => k_is)
    (case n_list => k_is)
    (case n_tuple => k_is)
    (case n_repr => k_is)
    (case n_range => k_is)
    (case n_isinstance => k_is)
    (case n_ValueError => k_is)
    (case te_l => k_is)
    (case te_t => k_is)
    (case k0_l => k_is)
    (case k0_h1 => k_is)
    (case k0_h2 => k_is)
    (case k0_h3 => k_is)
    (case k0_h4 => k_is)
    (case k0_h5 => k_is)
    (case k0_h6 => k_is)
    (case k0_h7 => k_is)
    (case k0_h8 => k_is)
    (case k0_sa => k_is)
    (case k0_ty => k_is)
    (case k0_kp => k_is)
    (case k1_l => k_is)
    (case k1_h1 => k_is)
    (case k1_h2 => k_is)
    (case k1_h3 => k_is)
    (case k1_h4 => k_is)
    (case k1_h5 => k_is)
    (case k1_h6 => k_is)
    (case k1_h7 => k_is)
    (case k1_h8 => k_is)
    (case k1_sa => k_is)
    (case k1_ty => k_is)
    (case k1_kp => k_is)
    (case k2_l => k_is)
    (case k2_h1 => k_is)
    (case k2_h2 => k_is)
    (case k2_h3 => k_is)
    (case k2_h4 => k_is)
    (case k2_h5 => k_is)
    (case k2_h6 => k_is)
    (case k2_h7 => k_is)
    (case k2_h8 => k_is)
    (case k2_sa => k_is)
    (case k2_ty => k_is)
    (case k2_kp => k_is)
    (case k3_l => k_is)
    (case k3_h1 => k_is)
    (case k3_h2 => k_is)
    (case k3_h3 => k_is)
    (case k3_h4 => k_is)
    (case k3_h5 => k_is)
    (case k3_h6 => k_is)
    (case k3_h7 => k_is)
    (case k3_h8 => k_is)
    (case k3_sa => k_is)
    (case k3_ty => k_is)
    (case k3_kp => k_is)
    (case k4_l => k_is)
    (case k4_h1 => k_is)
    (case k4_h2 => k_is)
    (case k4_h3 => k_is)
    (case k4_h4 => k_is)
    (case k4_h5 => k_is)
    (case k4_h6 => k_is)
    (case k4_h7 => k_is)
    (case k4_h8 => k_is)
    (case k4_sa => k_is)
    (case k4_ty => k_is)
    (case k4_kp => k_is)
    (case k5_l => k_is)
    (case k5_h1 => k_is)
    (case k5_h2 => k_is)
    (case k5_h3 => k_is)
    (case k5_h4 => k_is)
    (case k5_h5 => k_is)
    (case k5_h6 => k_is)
    (case k5_h7 => k_is)
    (case k5_h8 => k_is)
    (case k5_sa => k_is)
    (case k5_ty => k_is)
    (case k5_kp => k_is)
    (case k6_l => k_is)
    (case k6_h1 => k_is)
    (case k6_h2 => k_is)
    (case k6_h3 => k_is)
    (case k6_h4 => k_is)
    (case k6_h5 => k_is)
    (case k6_h6 => k_is)
    (case k6_h7 => k_is)
    (case k6_h8 => k_is)
    (case k6_sa => k_is)
    (case k6_ty => k_is)
    (case k6_kp => k_is)
    (case k7_l => k_is)
    (case k7_h1 => k_is)
    (case k7_h2 => k_is)
    (case k7_h3 => k_is)
    (case k7_h4 => k_is)
    (case k7_h5 => k_is)
    (case k7_h6 => k_is)
    (case k7_h7 => k_is)
    (case k7_h8 => k_is)
    (case k7_sa => k_is)
    (case k7_ty => k_is)
    (case k7_kp => k_is)
    (case k8_l => k_is)
    (case k8_h1 => k_is)
    (case k8_h2 => k_is)
    (case k8_h3 => k_is)
    (case k8_h4 => k_is)
    (case k8_h5 => k_is)
    (case k8_h6 => k_is)
    (case k8_h7 => k_is)
    (case k8_h8 => k_is)
    (case k8_sa => k_is)
    (case k8_ty => k_is)
    (case k8_kp => k_is)
    (case k9_l => k_is)
    (case k9_h1 => k_is)
    (case k9_h2 => k_is)
    (case k9_h3 => k_is)
    (case k9_h4 => k_is)
    (case k9_h5 => k_is)
    (case k9_h6 => k_is)
    (case k9_h7 => k_is)
    (case k9_h8 => k_is)
    (case k9_sa => k_is)
    (case k9_ty => k_is)
    (case k9_kp => k_is)
    (case k10_l => k_is)
    (case k10_h1 => k_is)
    (case k10_h2 => k_is)
    (case k10_h3 => k_is)
    (case k10_h4 => k_is)
    (case k10_h5 => k_is)
    (case k10_h6 => k_is)
    (case k10_h7 => k_is)
    (case k10_h8 => k_is)
    (case k10_sa => k_is)
    (case k10_ty => k_is)
    (case k10_kp => k_is)
    (case i3_t => k_is)
    (case i3_l => k_is)
    (case i3_c => k_is)
    (case i3_k => k_is)
    (case i3_n0 => k_is)
    (case i4_t => k_is)
    (case i4_l => k_is)
    (case i4_c => k_is)
    (case i4_k => k_is)
    (case i4_n0 => k_is)
    (case i5_t => k_is)
    (case i5_l => k_is)
    (case i5_c => k_is)
    (case i5_k => k_is)
    (case i5_n0 => k_is)
    (case i6_t => k_is)
    (case i6_l => k_is)
    (case i6_c => k_is)
    (case i6_k => k_is)
    (case i6_n0 => k_is)
    (case i7_t => k_is)
    (case i7_l => k_is)
    (case i7_c => k_is)
    (case i7_k => k_is)
    (case i7_n0 => k_is)
    (case i7_n1 => k_is)
    (case i8_t => k_is)
    (case i8_l => k_is)
    (case i8_c => k_is)
    (case i8_k => k_is)
    (case i8_n0 => k_is)
    (case i8_n1 => k_is)
    (case i9_t => k_is)
    (case i9_l => k_is)
    (case i9_c => k_is)
    (case i9_k => k_is)
    (case i9_n0 => k_is)
    (case i9_n1 => k_is)
    (case i10_t => k_is)
    (case i10_l => k_is)
    (case i10_c => k_is)
    (case i10_k => k_is)
    (case i10_n0 => k_is)
    (case i10_n1 => k_is)
    (case i10_n2 => k_is)
    (case f_law_draw_l => k_is)
    (case f_law_draw_c => k_is)
    (case f_law_draw_k => k_is)
    (case f_law_pick_l => k_is)
    (case f_law_pick_c => k_is)
    (case f_law_pick_k => k_is)
    (case f_law_thing_l => k_is)
    (case f_law_thing_c => k_is)
    (case f_law_thing_k => k_is)
    (case f_law_made_l => k_is)
    (case f_law_made_c => k_is)
    (case f_law_made_k => k_is)
    (case f_law_named_l => k_is)
    (case f_law_named_c => k_is)
    (case f_law_named_k => k_is)
    (case f_law_fields_l => k_is)
    (case f_law_fields_c => k_is)
    (case f_law_fields_k => k_is)
    (case f_law_kinds_l => k_is)
    (case f_law_kinds_c => k_is)
    (case f_law_kinds_k => k_is)
    (case flaw_l => k_is)
    (case flaw_c => k_is)
    (case flaw_k => k_is)
    (case q0 => k_exc)
    (case q1 => k_exc)
    (case q2 => k_exc)

