import PyProof.Rows.All
import Wide.All
import OpenK.AllK
import Wide.FinOn
import HandS.ForMost
import HandS.ForExc
import HandS.Flow
import HandS.IsInst
import PyProof.ReprRoads
import HandS.ExcInit
import HandS.ExcField
import HandS.ExcIs
import HandS.MakeKwOnly
import HandS.ExcValue
import HandS.More
import HandS.HeadHook3
import HandS.Star
import HandS.MakeKw
import HandS.Zip
import KE.KDictZip
import HandS.TupAny
import HandS.Walk
import HandS.TryMany
import HandS.RaiseMore
import HandS.WordsExc
import HandS.Deep
import PySem.Challenge.RW_treequill_k57_segments
set_option Elab.async false
set_option linter.all false
set_option maxRecDepth 100000
set_option maxHeartbeats 4000000
/-! ### Tq: a def's promise where no repr runs around it (the guards are known to be none), and the end of a law by it -/
namespace Tq
open PySem L2 PySem.Spec PyProof.Rows
abbrev Quiet (A : Around) : Prop := A.guards = some []
/-- as FnOk, asked only where no repr is running -/
structure FnG (P : Program) (w : World) (K : PySem.W.Frag) (mg : Str → Option Value) (base : Heap) (CX : CXT) (k : Nat) (f : Addr)
    (fd : FuncData) (ps : List Str) (sp : Sp) : Prop where
  len : ∀ vs H Q E, sp vs H Q E → vs.length = ps.length
  run : ∀ (A : Around) (outer : List Env) (s : Shared) (H : Hp) (args : Args) (us : List Value) (vs : List V) (Q : VK) (E : XK),
    Quiet A → Room k A → Env0 P w K mg base A outer s H → BindsTo s fd args (ps.zip us) → Vals vs us → sp vs H Q E →
    codeAny (model P w) A (.call (.ref f) args) (CR CX outer P w H s Q E) s
section
variable {P : Program} {w : World} {K : PySem.W.Frag} {mg : Str → Option Value} {base : Heap} {CX : CXT} {j k : Nat} {f : Addr}
  {fd : FuncData} {N ps : List Str} {sp sp' : Sp}
theorem FnG.of (F : FnOk P w K mg base CX k f fd ps sp) : FnG P w K mg base CX k f fd ps sp :=
  ⟨F.len, fun A o s H a us vs Q E _ => F.run A o s H a us vs Q E⟩
theorem FnG.up (F : FnG P w K mg base CX j f fd ps sp) (h : j ≤ k) : FnG P w K mg base CX k f fd ps sp :=
  ⟨F.len, fun A o s H a us vs Q E g hr => F.run A o s H a us vs Q E g (hr.mono h)⟩
theorem FnG.imp (F : FnG P w K mg base CX k f fd ps sp) (h : ∀ vs H Q E, sp' vs H Q E → sp vs H Q E) : FnG P w K mg base CX k f fd ps sp' :=
  ⟨fun vs H Q E q => F.len vs H Q E (h _ _ _ _ q), fun A o s H a us vs Q E g hr e b v q => F.run A o s H a us vs Q E g hr e b v (h _ _ _ _ q)⟩
/-- a def by its body, where no repr runs -/
theorem okG {x qual : Str} {st : Stmt} (F : Fun K x qual st f fd) (S : FnScope N ps (defScope st)) (len : ∀ vs H Q E, sp vs H Q E → vs.length = ps.length)
    (body : ∀ (cdv : Value) (A : Around) (outer : List Env) (s : Shared) (H : Hp) (vs : List V) (Q : VK) (E : XK),
      Quiet (A.deeper (envOfC qual (defScope st) s.heap.objs.size f cdv)) → Room k (A.deeper (envOfC qual (defScope st) s.heap.objs.size f cdv)) → sp vs H Q E →
      ∃ t, PSs (cxOf CX P w K mg base N qual (defScope st) f cdv A outer s H E) (defBody st) t ∧
        t { nx := fun _ H' => Q .non H', rt := Q } (start N vs) H) : FnG P w K mg base CX (k + 1) f fd ps sp := by
  obtain ⟨oc, od, kV, doc, pm, an, cdv, ct, osl, rfl, lk, hcd⟩ := F.ex
  refine ⟨len, fun A outer s H args us vs Q E hq hr e0 hb r hsp => ?_⟩
  have hlen := len _ _ _ _ hsp
  have keepB : ∀ b o, base.get? b = some o → s.heap.get? b = some o := fun b o e => (e0.bs b o e).1
  have KX : K.In s.heap := e0.mod.kin.keeps keepB
  have noLim : s.heap.NoLimit := e0.mod.nolimit.keeps keepB
  have kinds : ∀ y ∈ ps.zip us, (defScope st).names.lookup y.1 = some .local ∨
      ((defScope st).names.lookup y.1 = some .cell ∧ ((cellsFrom (s.heap.objs.size + 1) (defScope st).names []).lookup y.1).isSome = true) := by
    rintro ⟨n, v⟩ hy
    rcases S.par n (List.of_mem_zip hy).1 with q | q
    · exact Or.inl q
    · exact Or.inr ⟨q, PySem.W.cellsFrom_some _ _ _ (Or.inl q)⟩
  refine codeAny_call_function hr.depth (KX _ _ lk) rfl S.co S.gen rfl (PySem.W.codeRec_of KX hcd) (hb _ _ _ _ ?_)
  refine wpAny_newFunctionEnv_cells S.kind kinds fun env he s1 x => ?_
  subst he
  refine ⟨noLim.keeps x.toInCall.keep, codeAny_func ?_⟩
  obtain ⟨t, ht, hq2⟩ := body cdv A outer s H vs Q E hq (hr.deeper _) hsp
  have I : Inv (cxOf CX P w K mg base N qual (defScope st) f cdv A outer s H E) [] (start N vs) H s1 := inv_start S hr.hd e0 hlen r x
  refine wpAny_mono (ht.run [] s1 (start N vs) H _ I hq2) (fun fl s' hs => ?_) fun e s' hs => hs
  cases fl with
  | ret u =>
    obtain ⟨v, σ', H', J, rv, q⟩ := hs
    exact ⟨v, H', J.os, J.bare, J.base, J.hok, rv, q⟩
  | next =>
    obtain ⟨σ', H', J, q⟩ := hs
    exact ⟨V.non, H', J.os, J.bare, J.base, J.hok, (rfl : Value.none = Value.none), q⟩
  | brk =>
    obtain ⟨_, _, _, q⟩ := hs
    exact q.elim
  | cont =>
    obtain ⟨_, _, _, q⟩ := hs
    exact q.elim
end
section
variable {P : Program} {w : World} {K : PySem.W.Frag} {mg : Str → Option Value} {base : Heap} {k : Nat} {f : Addr} {fd : FuncData} {N ps : List Str} {sp : Sp}
/-- a def that lets no error out -/
theorem okG0 {x qual : Str} {st : Stmt} (F : Fun K x qual st f fd) (S : FnScope N ps (defScope st)) (len : ∀ vs H Q E, sp vs H Q E → vs.length = ps.length)
    (body : ∀ (cdv : Value) (A : Around) (outer : List Env) (s : Shared) (H : Hp) (vs : List V) (Q : VK) (E : XK),
      Quiet (A.deeper (envOfC qual (defScope st) s.heap.objs.size f cdv)) → Room k (A.deeper (envOfC qual (defScope st) s.heap.objs.size f cdv)) → sp vs H Q E →
      ∃ t, PSs (cxOf CX0 P w K mg base N qual (defScope st) f cdv A outer s H E).nox (defBody st) t ∧
        t { nx := fun _ H' => Q .non H', rt := Q } (start N vs) H) : FnG P w K mg base CX0 (k + 1) f fd ps sp :=
  okG F S len fun cdv A outer s H vs Q E hq hr h => let ⟨t, h1, h2⟩ := body cdv A outer s H vs Q E hq hr h; ⟨t, h1.nox, h2⟩
end
/-- a def of the top by its name, packed -/
structure Df (P : Program) (w : World) (K : PySem.W.Frag) (mg : Str → Option Value) (base : Heap) (CX : CXT) (k : Nat) (x : Str) (sp : Sp) : Prop where
  ex : ∃ (f : Addr) (fd : FuncData) (ps : List Str), mg x = some (.ref f) ∧ PySem.W.keepIn K (.ref f) = true ∧ Binds K fd ps [] ∧ FnG P w K mg base CX k f fd ps sp
section
variable {X : Cx} {CX : CXT} {j k : Nat} {sp : Sp} {E : XK} {x : Str} {p pos : Pos} {e : Expr} {es : List Expr} {t : TA}
theorem run_df {pins : List (Addr × Obj)} {σ : L2.St} {H : Hp} {s : Shared} {Q : VK} {us : List Value} {vs : List V} {f : Addr} {fd : FuncData} {ps : List Str}
    (F : FnG X.prog X.w X.K X.mg X.base CX k f fd ps sp) (hq : Quiet X.A) (hr : Room k X.A) (hb : Binds X.K fd ps []) (hx : Passes CX X E)
    (I : Inv X pins σ H s) (r : Vals vs us) (h : sp vs H Q E) : wpAny (model X.prog X.w) X.A (call (.ref f) us) (EP X pins σ Q) X.xe s := by
  have hl : us.length = ps.length := by rw [← r.length]; exact F.len _ _ _ _ h
  have hb2 := hb s us I.kIn (by rw [List.append_nil]; exact hl)
  rw [List.append_nil] at hb2
  refine wpAny_call (codeAny_mono (F.run X.A X.stack s H ⟨us, []⟩ us vs Q E hq hr I.env0 hb2 r h) fun r s' hq => ?_)
  cases r with
  | error e => exact hx pins σ H s e s' I hq
  | ok fl =>
    cases fl with
    | ret u => exact I.after hq
    | next => exact hq.elim
    | brk => exact hq.elim
    | cont => exact hq.elim
def tDf (sp : Sp) (E : XK) (t : TA) : TE := fun σ H Q => t σ H fun vs H1 => sp vs H1 Q E
/-- f(e, ..), f a def of the top -/
theorem pe_df (c : Df X.prog X.w X.K X.mg X.base CX k x sp) (hq : Quiet X.A) (hr : Room j X.A) (hx : Passes CX X E) (ha : PA X (e :: es) t)
    (hk : k ≤ j := by omega) (hg : Gl X x := by rfl) (hdb : (x == ("__debug__" : Str)) = false := by decide)
    (he : starEach (e :: es) X.env = (false, eval e X.env) :: starEach es X.env := by rfl) (hpl : (backTo pos (starEach es X.env)).any (·.1) = false := by rfl) :
    PE X (.Call (.Name x p) (e :: es) [] pos) (tDf sp E t) := by
  obtain ⟨f, fd, ps, hm, hkp, hb, F⟩ := c.ex
  refine ⟨fun pins s σ H Q I h => ?_⟩
  refine wpAny_Call_Name_kw (ld_glob I hg hm ?_ hdb)
  refine PySem.W.callWith_K (h₀ := X.base) I.ok.mod.kin hkp (thn (ha.run pos pins s σ H _ I h) fun us s1 hh => ?_) he hpl
  obtain ⟨vs, H1, I1, r1, q1⟩ := hh
  exact ⟨I1.kIn, run_df F hq (hr.mono hk) hb hx I1 r1 q1⟩
end
/-! ### the end of a law -/
theorem lawG {P : Program} {w : World} {K : PySem.W.Frag} {mg mb : Str → Option Value} {CX : CXT} {k : Nat} {fa a : Addr} {fd : FuncData} {x : Str} {sp : Sp}
    {s₁ : Shared} {vs : List Value} {ns : List Int} (KX : K.In s₁.heap) (hns : s₁.heap.Ns mainGlobals mg) (hb : s₁.heap.Ns builtinsNs mb)
    (hbb : ∀ x : Str, x ≠ "__name__" → mb x = bootBuiltins x) (hlim : s₁.heap.NoLimit) (hg : s₁.gens = #[])
    (ha : s₁.heap.get? a = some { cls := .type "list", data := .seq vs.toArray }) (hi : IntsAre vs ns) (hl : ns.length ≤ sizeLine) (hr : Room k callerA)
    (F : ∀ base : Heap, K.In base → base.Ns mainGlobals mg → FnG P w K mg base CX k fa fd [x] sp)
    (hbind : ∀ (s : Shared) (u : Value), BindsTo s fd ⟨[u], []⟩ [(x, u)])
    (hsp : ∀ H : Hp, Only H → SqL K H a (ns.map V.int) → sp [.ref a] H (fun v _ => v = .bl true) fun _ _ _ => False)
    (hCX : ∀ H e s', CX [] H s₁ (fun _ _ _ => False) e s' → False) :
    codeAny (model P w) callerA (.call (.ref fa) ⟨[.ref a], []⟩)
      (fun r s' => r = .ok (.ret (.bool true)) ∧ OldK s₁.heap s'.heap ∧ s'.os = s₁.os ∧ AllBare s'.gens) s₁ := by
  have rels := vals_ints hi
  have lenV := hi.length
  have main : ∀ H : Hp, Only H → SqL K H a (ns.map V.int) → HOk P w H s₁.heap → (∀ b, H b ≠ none → b = a) → (H a ≠ none → K.lookup a = none) →
      codeAny (model P w) callerA (.call (.ref fa) ⟨[.ref a], []⟩)
        (fun r s' => r = .ok (.ret (.bool true)) ∧ OldK s₁.heap s'.heap ∧ s'.os = s₁.os ∧ AllBare s'.gens) s₁ := by
    intro H hO hS hok hA hK
    have none_or : ∀ b, H b = none ∨ b = a := fun b => by
      by_cases q : H b = none
      · exact Or.inl q
      · exact Or.inr (hA b q)
    have noDict : ∀ {b : Addr} {o : Obj} {es : Array DictEntry} {ep : Nat}, s₁.heap.get? b = some o → o.data = .dict es ep → H b = none := by
      intro b o es ep e d
      rcases none_or b with q | q
      · exact q
      · rw [q, ha] at e
        cases e
        exact nomatch d
    have nsK : ∀ {b : Addr} {m : Str → Option Value}, s₁.heap.Ns b m → (hidT s₁.heap H).Ns b m := by
      rintro b m ⟨o, es, ep, e, d, r⟩
      exact ⟨o, es, ep, hidT_get e (noDict e d), d, r⟩
    have inB : K.In (hidT s₁.heap H) := by
      intro b o e
      refine hidT_get (KX b o e) ?_
      rcases none_or b with q | q
      · exact q
      · by_cases z : H b = none
        · exact z
        · rw [q] at z e
          rw [hK z] at e
          cases e
    have modB : Mod K mg (hidT s₁.heap H) := by
      obtain ⟨mc, l1, l2⟩ := hlim
      exact ⟨inB, nsK hns, ⟨mb, nsK hb, hbb⟩, ⟨mc, nsK l1, l2⟩⟩
    have e0 : Env0 P w K mg (hidT s₁.heap H) callerA [] s₁ H :=
      ⟨rfl, modB, fun b o e => of_hidT e, Nat.le_of_eq (hidT_size _ _), trivial, fun b hb => absurd (show b ∈ ([] : List Addr) from hb) (by simp), hok, .of_eq hg⟩
    have run := (F _ inB (nsK hns)).run callerA [] s₁ H ⟨[.ref a], []⟩ [.ref a] [.ref a] _ _ rfl hr e0 (hbind s₁ (.ref a)) (.cons rfl .nil) (hsp H hO hS)
    refine codeAny_mono run fun r s' h => ?_
    cases r with
    | error e => exact (hCX H e s' h).elim
    | ok fl =>
      cases fl with
      | next => exact h.elim
      | brk => exact h.elim
      | cont => exact h.elim
      | ret u =>
        obtain ⟨v, H', os, bare, un, hok', r', q⟩ := h
        obtain rfl : v = V.bl true := q
        obtain rfl : u = Value.bool true := r'
        refine ⟨rfl, OldK.of_keep fun b o e => ?_, os, bare⟩
        cases q : H b with
        | none => exact un.keep b o e q (fun z => absurd (show b ∈ ([] : List Addr) from z) (by simp)) (by simp)
        | some u =>
          rcases hO b with z | ⟨ob, xs, z⟩
          · rw [q] at z
            cases z
          · have e1 := (hok b _ z).1
            have e2 := (hok' b _ (un.frzs b ob _ z)).1
            rw [e] at e1
            cases e1
            exact e2
  cases hk : K.lookup a with
  | some o =>
    have e := KX a o hk
    rw [ha] at e
    cases e
    refine main (fun _ => none) (fun _ => Or.inl rfl) (Or.inr ⟨_, vs.toArray, _, hk, rfl, rfl, rfl, ?_, by simpa using rels⟩) (fun b u z => nomatch z)
      (fun b z => absurd rfl z) fun z => absurd rfl z
    rw [List.size_toArray, lenV]
    exact hl
  | none =>
    refine main (fun b => if b = a then some (.frz { cls := .type "list", data := .seq vs.toArray } (.lst (ns.map V.int))) else none) (fun b => ?_)
      (Or.inl (Or.inr ⟨{ cls := .type "list", data := .seq vs.toArray }, if_pos rfl⟩)) (fun b u z => ?_) (fun b z => ?_) fun _ => hk
    · by_cases h : b = a
      · exact Or.inr ⟨_, _, if_pos h⟩
      · exact Or.inl (if_neg h)
    · by_cases h : b = a
      · have z2 := (if_pos h).symm.trans z
        cases z2
        rw [h]
        exact ⟨ha, by rw [List.length_map]; exact hl, vs, _, rels, ha⟩
      · exact nomatch (if_neg h).symm.trans z
    · by_cases h : b = a
      · exact h
      · exact absurd (if_neg h) z
theorem walkG {l : PySem.W.OpenLaw} {n k : Nat} {q : Program} {loose : List Str} {XP : (Str → Option Value) → Heap → Prop} {YP : World → Heap → Prop} {d : DefRec}
    {K : Params → PySem.W.Frag} {CX : World → CXT} {sp : PySem.W.Frag → Sp} {x : Str}
    (hn : l.most = some n) (hn2 : n ≤ sizeLine) (hdf : d.params.defaults = []) (hr : Room k callerA) (hY : ∀ (w : World) (h : Heap), YP w h → (K w.params).In h)
    (F : ∀ (w : World) (mg : Str → Option Value) (fa : Addr) (h : Heap), (K w.params).In h → h.Ns mainGlobals mg → mg d.name = some (.ref fa) →
      ∃ fd : FuncData, (∀ (s : Shared) (u : Value), BindsTo s fd ⟨[u], []⟩ [(x, u)]) ∧
        ∀ base : Heap, (K w.params).In base → base.Ns mainGlobals mg → FnG l.prog w (K w.params) mg base (CX w) k fa fd [x] (sp (K w.params)))
    (hsp : ∀ (K : PySem.W.Frag) (H : Hp) (a : Addr) (ns : List Int), ns.length ≤ n → Only H → SqL K H a (ns.map V.int) → sp K [.ref a] H (fun v _ => v = .bl true) fun _ _ _ => False)
    (hCX : ∀ (w : World) (H : Hp) (s : Shared) (e : Value) (s' : Shared), CX w [] H s (fun _ _ _ => False) e s' → False) :
    PySem.W.WalkO q loose XP YP l.row.toRowW d [] (fun f vs => PySem.call f vs) := by
  refine Att.attach_call hn hdf fun w s₀ s₁ mg mb fa o pm cd doc a vs ns G Y ho hd hcd hmg hobj hints hlen hg => ?_
  have KX := hY w _ Y
  obtain ⟨fd, hb, hF⟩ := F w mg fa _ KX G.T.g hmg
  exact lawG KX G.T.g G.T.b G.T.builtins G.T.nolimit hg hobj hints (Nat.le_trans hlen hn2) hr hF hb (fun H hO hS => hsp _ H a ns hlen hO hS) fun H e s' => hCX w H s₁ e s'
/-! ### repr of data -/
def rRepr (K : PySem.W.Frag) : List V → Hp → VK → Prop := fun xs H Q =>
  ∃ (a : Addr) (d : PyData), xs = [.ref a] ∧ Dp K H (.ref a) d ∧ d.showable = true ∧ d.hasDict = false ∧ d.depth ≤ 60 ∧ d.shown.length ≤ sizeLine ∧ Q (.str d.shown) H
theorem call_repr {X : Cx} {k : Nat} (hq : Quiet X.A) (hr : Room k X.A) : CallR X (.builtin "repr") (rRepr X.K) := by
  intro pins s σ H xs us Q I r h
  obtain ⟨a, d, rfl, hd, hs, hn, hp, hz, q⟩ := h
  cases r with
  | cons rv rn =>
    cases rn
    cases rv
    obtain ⟨as, rd⟩ := Dp.reads I d (.ref a) (.ref a) hd rfl
    have hu := hr.un
    refine repr_of_reads' rd hs (fun z => by rw [hn] at z; cases z) hq (by omega) (fun _ _ e => e) (fun h' u tk kp => ?_) hz
    exact ⟨.str d.shown, H, I.kept kp, ⟨u, rfl⟩, q⟩
end Tq

/-! ### the stream of draws -/
namespace Tq
open PySem L2
/-- a def of the text, by its name -/
structure Fn1 (K : PySem.W.Frag) (mg : Str → Option Value) (x : Str) (st : Stmt) : Prop where
  ex : ∃ (f : Addr) (fd : FuncData), mg x = some (.ref f) ∧ Fun K x x st f fd
theorem fn1 {K : PySem.W.Frag} {h : Heap} {mg : Str → Option Value} {x : Str} {st : Stmt} {f : Addr} {oc : Value} {od an : Option Addr} {osl : Array (Option Value)}
    {kV doc pm cdv ct : Value} (X : K.In h) (G : h.Ns mainGlobals mg) (a : PySem.W.nsIn K mainGlobals x = some (some (.ref f)))
    (l : K.lookup f = some ⟨oc, od, .func (PySem.W.fnOf x x (defArgs st) (defBody st) (defScope st) .none kV doc pm an cdv ct), osl⟩)
    (c : PySem.W.codeIn K cdv x = true) (k : PySem.W.keepIn K (.ref f) = true) : Fn1 K mg x st := ⟨f, _, PySem.W.mg_of X G a, fun_mk l c k⟩
theorem df_of {P : Program} {w : World} {K : PySem.W.Frag} {mg : Str → Option Value} {base : Heap} {CX : CXT} {k : Nat} {x : Str} {st : Stmt} {sp : Sp} {ps : List Str}
    (F : Fn1 K mg x st) (hb : ∀ (kV doc pm : Value) (an : Option Addr) (cdv ct : Value) (us : List Value), us.length = ps.length →
      bindArgs (PySem.W.fnOf x x (defArgs st) (defBody st) (defScope st) .none kV doc pm an cdv ct) ⟨us, []⟩ = pure (ps.zip us))
    (ok : ∀ (f : Addr) (fd : FuncData), Fun K x x st f fd → FnG P w K mg base CX k f fd ps sp) : Df P w K mg base CX k x sp := by
  obtain ⟨f, fd, hm, F⟩ := F.ex
  exact ⟨f, fd, ps, hm, F.kp, F.binds hb, ok f fd F⟩

/-- a heap without two of its places -/
def off (a l : Addr) (H : Hp) : Hp := fun b => if b = a ∨ b = l then none else H b
theorem off_sub {a l : Addr} {H : Hp} : Same (off a l H) H := fun b o e => by
  unfold off at e
  split at e
  · cases e
  · exact e
theorem off_of {a l b : Addr} {H : Hp} {o : HO} (h : H b = some o) (h1 : b ≠ a) (h2 : b ≠ l) : off a l H b = some o := by
  unfold off
  rw [if_neg (fun z => z.elim h1 h2)]
  exact h
theorem off_ne {a l b : Addr} {H : Hp} {o : HO} (h : off a l H b = some o) : b ≠ a ∧ b ≠ l ∧ H b = some o := by
  unfold off at h
  split at h
  · cases h
  · rename_i n
    exact ⟨fun e => n (Or.inl e), fun e => n (Or.inr e), h⟩
/-- what stood beside the stream stands -/
def Nx (a l : Addr) (H H' : Hp) : Prop := Same (off a l H) (off a l H')
theorem Nx.refl {a l : Addr} {H : Hp} : Nx a l H H := Same.refl _
theorem Nx.trans {a l : Addr} {H H1 H2 : Hp} (x : Nx a l H H1) (y : Nx a l H1 H2) : Nx a l H H2 := Same.trans x y
theorem Nx.get {a l b : Addr} {H H' : Hp} {o : HO} (x : Nx a l H H') (h : H b = some o) (h1 : b ≠ a) (h2 : b ≠ l) : H' b = some o := off_sub b o (x b o (off_of h h1 h2))
theorem Nx.of_same {a l : Addr} {H H' : Hp} (x : Same H H') : Nx a l H H' := fun b o e => by
  obtain ⟨h1, h2, h3⟩ := off_ne e
  exact off_of (x b o h3) h1 h2
theorem Nx.upd_a {a l : Addr} {H : Hp} {o : HO} : Nx a l H (upd H a o) := fun b u e => by
  obtain ⟨h1, h2, h3⟩ := off_ne e
  exact off_of (by rw [upd_ne h1]; exact h3) h1 h2
theorem Nx.upd_l {a l : Addr} {H : Hp} {o : HO} : Nx a l H (upd H l o) := fun b u e => by
  obtain ⟨h1, h2, h3⟩ := off_ne e
  exact off_of (by rw [upd_ne h2]; exact h3) h1 h2
theorem Nx.new {a l p : Addr} {H : Hp} {o : HO} (hp : H p = none) : Nx a l H (upd H p o) := Nx.of_same fun b u e => by
  rw [upd_ne (ne_of_none e hp)]
  exact e
/-- the stream at a, its cells at l, with at most c draws made -/
structure Strm (H : Hp) (a l : Addr) (c : Nat) : Prop where
  ex : ∃ (ns : List Int) (x k m : Int), H a = some (.lst [.ref l, .int x, .int k, .int m]) ∧ H l = some (.lst (ns.map V.int)) ∧ 0 ≤ x ∧ 0 ≤ k ∧ k ≤ c ∧ 0 ≤ m ∧ m < 2147483647
theorem Strm.mono {H : Hp} {a l : Addr} {c d : Nat} (s : Strm H a l c) (h : c ≤ d) : Strm H a l d := by
  obtain ⟨ns, x, k, m, h1, h2, h3, h4, h5, h6⟩ := s.ex
  exact ⟨ns, x, k, m, h1, h2, h3, h4, by omega, h6⟩
theorem strm_ne {H : Hp} {a l : Addr} {ns : List Int} {x k m : Int} (h1 : H a = some (.lst [.ref l, .int x, .int k, .int m])) (h2 : H l = some (.lst (ns.map V.int))) : a ≠ l := by
  rintro rfl
  rw [h1] at h2
  cases ns with
  | nil => cases h2
  | cons n r => cases h2
theorem Strm.dom {H : Hp} {a l : Addr} {c : Nat} (s : Strm H a l c) : H a ≠ none ∧ H l ≠ none := by
  obtain ⟨ns, x, k, m, h1, h2, _⟩ := s.ex
  rw [h1, h2]
  exact ⟨nofun, nofun⟩
theorem Strm.keep {H H' : Hp} {a l : Addr} {c : Nat} (s : Strm H a l c) (h1 : H' a = H a) (h2 : H' l = H l) : Strm H' a l c := by
  obtain ⟨ns, x, k, m, e1, e2, r⟩ := s.ex
  exact ⟨ns, x, k, m, h1.trans e1, h2.trans e2, r⟩
theorem Strm.new {H : Hp} {a l p : Addr} {c : Nat} {o : HO} (s : Strm H a l c) (hp : H p = none) : Strm (upd H p o) a l c :=
  s.keep (upd_ne fun e => s.dom.1 (e ▸ hp)) (upd_ne fun e => s.dom.2 (e ▸ hp))
/-- what is new behind was new ahead -/
theorem Nx.free {a l p : Addr} {H H' : Hp} {c : Nat} (x : Nx a l H H') (s : Strm H' a l c) (hp : H' p = none) : H p = none := by
  cases q : H p with
  | none => rfl
  | some o =>
    have h1 : p ≠ a := fun e => s.dom.1 (e ▸ hp)
    have h2 : p ≠ l := fun e => s.dom.2 (e ▸ hp)
    rw [x.get q h1 h2] at hp
    cases hp
theorem eqv_nil (ns : List Int) : PyData.eqv (.list (ns.map PyData.int)) (.list []) = ns.isEmpty := by
  cases ns with
  | nil => rfl
  | cons n r => simp [PyData.eqv, PyData.eqvAll]
theorem dpAll_ints {K : PySem.W.Frag} {H : Hp} : ∀ ns : List Int, DpAll K H (ns.map V.int) (ns.map PyData.int)
  | [] => .nil
  | n :: r => .cons (.int n) (dpAll_ints r)
theorem canLay_ints : ∀ ns : List Int, PyData.canLayAll0 (ns.map PyData.int) = true
  | [] => rfl
  | n :: r => by
    rw [List.map_cons, PyData.canLayAll0, canLay_ints r]
    rfl
theorem depth_ints : ∀ ns : List Int, PyData.depthAll (ns.map PyData.int) ≤ 1
  | [] => by simp [PyData.depthAll]
  | n :: r => by
    rw [List.map_cons, PyData.depthAll]
    have := depth_ints r
    simp [PyData.depth]
    omega
theorem shaped_ints (ns : List Int) : SeqAt.shaped (.list (ns.map PyData.int)) = true := by
  unfold SeqAt.shaped
  rw [Bool.and_eq_true]
  refine ⟨by rw [PyData.canLay0]; exact canLay_ints ns, ?_⟩
  have := depth_ints ns
  rw [PyData.depth]
  exact decide_eq_true (by omega)
/-! within a comprehension's block the written part is named -/
theorem castIx {X : Cx} {K : PySem.W.Frag} {r : PySem.W.Frag → R2} (i : IxR X (r X.K)) (h : X.K = K := by rfl) : IxR X (r K) := h ▸ i
theorem castOp {X : Cx} {K : PySem.W.Frag} {f : Value → Value → Sem Value} {r : PySem.W.Frag → R2} (i : OpR X f (r X.K)) (h : X.K = K := by rfl) : OpR X f (r K) := h ▸ i
theorem castCall {X : Cx} {K : PySem.W.Frag} {f : Value} {r : PySem.W.Frag → List V → Hp → VK → Prop} (i : CallR X f (r X.K)) (h : X.K = K := by rfl) : CallR X f (r K) := h ▸ i
theorem castPE {X : Cx} {K : PySem.W.Frag} {e : PySem.Expr} {r : PySem.W.Frag → TE} (i : PE X e (r X.K)) (h : X.K = K := by rfl) : PE X e (r K) := h ▸ i
theorem if1 {b : Bool} {A B : Prop} (hb : b = true) (h : A) : if b = true then A else B := by rw [if_pos hb]; exact h
theorem if0 {b : Bool} {A B : Prop} (hb : b = false) (h : B) : if b = true then A else B := by rw [hb, if_neg Bool.false_ne_true]; exact h
theorem ix0 (y : Int) (r : List Int) : seqIndex? 0 ((y :: r).map V.int).length = some 0 := by
  simp [seqIndex?]
theorem while_split {c : TT} {tb u : TS} {D : Ends} {σ : St} {H : Hp} (J : St → Hp → Prop) (hJ : ∀ σ H, J σ H → u D σ H)
    (h : (∀ σ H, J σ H → u D σ H) → tWhile c tb { D with nx := u D } σ H) : tSeq (tWhile c tb) u D σ H := h hJ
/-- draw(stream, n): some number from 0 to n - 1 -/
def spDraw : Sp := fun vs H Q _ => ∃ (a l : Addr) (n : Int) (c : Nat), vs = [.ref a, .int n] ∧ 0 < n ∧ n < 1000000000 ∧ c < 4000000 ∧ Strm H a l c ∧
  ∀ (r : Int) (H' : Hp), 0 ≤ r → r < n → Strm H' a l (c + 1) → Nx a l H H' → Q (.int r) H'
end Tq

/-! ### own errors held as values: made by place or by name, their fields, isinstance -/
namespace Tq
open PySem L2 PySem.Spec PyProof.Rows PySem.HandSPX
/-! the making, with keywords -/
section
variable {prog : Program} {w : World} {A : Around} {E : Value → Shared → Prop} {R : Result → Shared → Prop} {h : Heap} {g : Array GenState} {d : Drawn} {t : Nat} {os : OsState}
variable {nm q : Str} {C N : Addr} {bs bm bmB : List Value} {hdct : Bool} {sn : List Str} {sub : List Value} {ab : Bool} {col : Option Bool} {dd : Option Addr}
  {k0 k1 k2 k3 k5 : Option Value} {B newId initId : String} {kw : List (Str × Value)}
theorem check_newK {M : Model} (F : ExcBaseFacts B newId initId bmB) (hT : ∀ X : String, bm.contains (.type X) = bmB.contains (.type X)) {rest : List Value} {Q : Unit → Shared → Prop}
    (hC : h.get? C = some (excClassObj nm q C N bs bm hdct sn sub ab col dd k0 k1 k2 k3 k5 newId)) (hq : Q () ⟨h, g, d, t, os⟩) :
    wpAny M A (checkBuiltinCall newId ⟨.ref C :: rest, kw⟩) Q E ⟨h, g, d, t, os⟩ := by
  have inB : (Value.ref C :: bm).contains (.type B) = true := by rw [List.contains_cons, hT, F.hasB, Bool.or_true]
  have star := F.noStar
  simp only [checkBuiltinCall, F.newKind, F.newSplit, F.newRow]
  repeat (first
    | refine wpAny_loadPart_at hC ?_
    | (refine wpAny_isSubtype_exc hC ?_; rw [inB])
    | refine wpAny_staticBase_exc hC ?_
    | refine wpAny_madeBy_exc hC ?_
    | simp only [bne_self_eq_false, Bool.false_eq_true, if_false]
    | wp_step)
  exact hq
theorem newK (F : ExcBaseFacts B newId initId bmB) (hT : ∀ X : String, bm.contains (.type X) = bmB.contains (.type X)) {rest : List Value}
    (hC : h.get? C = some (excClassObj nm q C N bs bm hdct sn sub ab col dd k0 k1 k2 k3 k5 newId))
    (hq : R (.ok (.ret (.ref (h.objs.size + 1)))) ⟨(h.push { cls := .type "tuple", data := .seq rest.toArray }).push
      { cls := .ref C, data := .fields #[.ref h.objs.size, .none, .none, .none, .bool false, .none] }, g, d, t, os⟩) (hrest : rest.length ≤ sizeLine) :
    codeAny (model prog w) A (.builtin newId ⟨.ref C :: rest, kw⟩) R ⟨h, g, d, t, os⟩ := by
  have ends := F.ends
  have inB : (Value.ref C :: bm).contains (.type B) = true := by rw [List.contains_cons, hT, F.hasB, Bool.or_true]
  have noA : (Value.ref C :: bm).contains (.type "AttributeError") = false := by rw [List.contains_cons, hT, F.noAttr]; rfl
  have noN : (Value.ref C :: bm).contains (.type "NameError") = false := by rw [List.contains_cons, hT, F.noName]; rfl
  refine codeAny_builtinAt F.entry ?_
  unfold Builtin.«BaseException.__new__»
  refine PySem.wpAt_bind ?_
  show PySem.wpAt _ _ _ (stack >>= _) _ _ _
  refine PySem.wpAt_bind (PySem.wpAt_stack fun p below => PySem.wpAt_of_wpAny ?_)
  wp_walk
  refine PySem.wpAt_of_wpAny ?_
  rw [F.owner]
  repeat (first
    | with_reducible refine wpAny_madeHere_exc F.canon hC ?_
    | with_reducible refine wpAny_loadPart_at hC ?_
    | (with_reducible refine wpAny_isSubtype_exc hC ?_; first | rw [inB] | rw [noA] | rw [noN])
    | wp_step)
  show R _ _
  rw [Heap.size_push]
  exact hq
theorem typeCallK (F : ExcBaseFacts B newId initId bmB) (hT : ∀ X : String, bm.contains (.type X) = bmB.contains (.type X)) {rest : List Value} {fI : Addr} {Q : Fin → Shared → Prop}
    (hC : h.get? C = some (excClassObj nm q C N bs bm hdct sn sub ab col dd k0 k1 k2 k3 k5 newId))
    (hi : W.Looks (model prog w) h (typeLookup (.ref C) "__init__") (some (.ref fI))) (hb : ∀ self, W.Looks (model prog w) h (bindSpecial (.ref fI) self) (.ref fI, [self]))
    (hrest : rest.length ≤ sizeLine)
    (hq : codeAny (model prog w) A (.call (.ref fI) ⟨.ref (h.objs.size + 1) :: rest, kw⟩)
      (fun r s' => match r with | .ok (.ret v) => v = .none ∧ Q (.done (.ret (.ref (h.objs.size + 1)))) s' | .ok _ => False | .error e => E e s')
      ⟨(h.push (W.kdv_tup rest)).push (excO C h.objs.size), g, d, t, os⟩) :
    wpAny (model prog w) A (Builtin.«type.__call__» ⟨.ref C :: rest, kw⟩) Q E ⟨h, g, d, t, os⟩ := by
  repeat (first
    | with_reducible refine wpAny_loadPart_at hC ?_
    | with_reducible refine wpAny_madeBy_exc hC ?_
    | wp_step)
  refine codeAny_call_builtin_code (Code.quiet_builtin _ F.quiet) (check_newK F hT hC ?_)
  refine newK F hT hC ?_ hrest
  show wpAny _ _ _ _ _ _
  have k : ∀ b o, h.get? b = some o → ((h.push (W.kdv_tup rest)).push (excO C h.objs.size)).get? b = some o := fun b o e => Heap.get?_push_of_some _ (Heap.get?_push_of_some _ e)
  have hC1 := k _ _ hC
  have hget : ((h.push (W.kdv_tup rest)).push (excO C h.objs.size)).get? (h.objs.size + 1) = some (excO C h.objs.size) := by heap_get
  have inC : (Value.ref C :: bm).contains (.ref C) = true := by simp
  have i1 := hi.keeps k
  have b1 := (hb (.ref (h.objs.size + 1))).keeps k
  unfold isInstance
  repeat (first
    | with_reducible refine wpAny_loadPart_at hget ?_
    | (with_reducible refine wpAny_isSubtype_exc hC1 ?_; rw [inC])
    | wp_step)
  show wpAny _ _ (typeLookup (.ref C) _) _ _ _
  refine i1.at ?_
  refine wpAny_holding (wpAny_bind (b1.at ?_))
  refine wpAny_bind (wpAny_call (codeAny_mono hq fun r s' z => ?_))
  rcases r with e | (v | _ | _ | _) <;> first | exact z | exact z.elim | skip
  obtain ⟨rfl, z⟩ := z
  first
    | exact wpAny_pure (wpAny_pure z)
    | (wp_walk; exact z)
theorem callK (F : ExcBaseFacts B newId initId bmB) (hT : ∀ X : String, bm.contains (.type X) = bmB.contains (.type X)) {rest : List Value} {fI : Addr}
    (hC : h.get? C = some (excClassObj nm q C N bs bm hdct sn sub ab col dd k0 k1 k2 k3 k5 newId))
    (hi : W.Looks (model prog w) h (typeLookup (.ref C) "__init__") (some (.ref fI))) (hb : ∀ self, W.Looks (model prog w) h (bindSpecial (.ref fI) self) (.ref fI, [self]))
    (hrest : rest.length ≤ sizeLine)
    (hq : codeAny (model prog w) (A.under (.builtin "type.__call__" ⟨.ref C :: rest, kw⟩)) (.call (.ref fI) ⟨.ref (h.objs.size + 1) :: rest, kw⟩) (W.InitBack (h.objs.size + 1) R)
      ⟨(h.push (W.kdv_tup rest)).push (excO C h.objs.size), g, d, t, os⟩) :
    codeAny (model prog w) A (.call (.ref C) ⟨rest, kw⟩) R ⟨h, g, d, t, os⟩ := by
  have f1 := tc_lookup
  have f2 := tc_bind (.ref C)
  have hTy : (⟨h, g, d, t, os⟩ : Shared).TypeIs (.ref C) "type" := ⟨_, hC, rfl⟩
  refine codeAny_of_tree ?_
  show wpAny _ _ (callAny (.ref C) _) _ _ _
  repeat (any_goals (first
    | assumption
    | with_reducible refine wpAny_loadPart_at hC ?_
    | wp_step))
  refine ⟨rfl, ?_⟩
  refine codeAny_call_builtin_at (Code.quiet_builtin _ (by decide +kernel)) entry_typeCall (wpAny_check_type_call_sub hC (typeCallK F hT hC hi hb hrest ?_))
  refine codeAny_mono hq fun r s' z => ?_
  rcases r with e | (v | _ | _ | _) <;> exact z
end
end Tq

namespace Tq
open PySem L2 PySem.Spec PyProof.Rows PySem.HandSPX
/-! readings and rules -/
/-- C(..) by the own __init__ of C; the new error is held -/
def tExI (C : Addr) (sp : Sp) (gV : List V → List V) (ta : TA) : TE := fun σ H Q => ta σ H fun vs H1 => vs.length ≤ 1000 ∧
  ∀ a, H1 a = none → sp (.ref a :: gV vs) (upd H1 a (exo a C none)) (fun v H2 => v = .non ∧ Q (.ref a) H2) E0
/-- what is known of an own error class and its __init__ -/
structure ExCl (K : PySem.W.Frag) (mg : Str → Option Value) (x : Str) (C : Addr) : Prop where
  gC : mg x = some (.ref C)
  ox : OexC K C
  ec : ExcC K C
theorem ExCl.xf {K : PySem.W.Frag} {mg : Str → Option Value} {x : Str} {C : Addr} (T : ExCl K mg x C) : XfC K C := ⟨T.ec.hg, T.ec.hk, T.ec.hs, T.ec.hd⟩
structure ExIn (K : PySem.W.Frag) (C fI : Addr) : Prop where
  iC : PySem.W.findIn K (.ref C) "__init__" = some (some (.ref fI))
  tI : PySem.W.typeIn K (.ref fI) = some (.type "function")
section
variable {X : Cx} {C fI : Addr} {k : Nat} {fd : FuncData} {ps : List Str} {sp : Sp} {x : Str} {p pos : Pos} {e : Expr} {es : List Expr} {ta : TA}
theorem run_ex {pins : List (Addr × Obj)} {σ : L2.St} {H1 : Hp} {s1 : Shared} {Q : VK} {us ys : List Value} {xs : List V} {kw : List (Str × Value)} (T : OexC X.K C) (J : ExIn X.K C fI)
    (F1 : FnOk X.prog X.w X.K X.mg X.base CX0 k fI fd ps sp) (hr : Room (k + 1) X.A) (I1 : Inv X pins σ H1 s1) (rel : Vals xs ys)
    (bind : ∀ (s : Shared) (a : Addr), X.K.In s.heap → (Value.ref a :: ys).length = ps.length → BindsTo s fd ⟨Value.ref a :: us, kw⟩ (ps.zip (Value.ref a :: ys)))
    (hus : us.length ≤ 1000) (q1 : ∀ a, H1 a = none → sp (.ref a :: xs) (upd H1 a (exo a C none)) (fun v H2 => v = .non ∧ Q (.ref a) H2) E0) :
    wpAny (model X.prog X.w) X.A (call (.ref C) us kw) (EP X pins σ Q) X.xe s1 := by
  obtain ⟨nm, q, N, bs, bm, sn, sub, ab, col, dd, k0, k1, k2, k3, k5, hC, hbm⟩ := T.cls
  obtain ⟨hp, g, dr, tk, os⟩ := s1
  have hsz : hp.objs.size ≤ hp.objs.size + 1 := Nat.le_succ _
  have hq := q1 (hp.objs.size + 1) (I1.hok.fresh hsz)
  have kk : ∀ b o, hp.get? b = some o → ((hp.push (PySem.W.kdv_tup us)).push (excO C hp.objs.size)).get? b = some o := fun b o e => Heap.get?_push_of_some _ (Heap.get?_push_of_some _ e)
  have hget : ((hp.push (PySem.W.kdv_tup us)).push (excO C hp.objs.size)).get? (hp.objs.size + 1) = some (excO C hp.objs.size) := by heap_get
  have I2 : Inv X pins σ (upd H1 (hp.objs.size + 1) (exo (hp.objs.size + 1) C none)) ⟨(hp.push (PySem.W.kdv_tup us)).push (excO C hp.objs.size), g, dr, tk, os⟩ :=
    I1.laid (t' := tk) (a := hp.objs.size + 1) (o := exo (hp.objs.size + 1) C none) kk hsz (exo_ok hget)
  have r2 : Vals (V.ref (hp.objs.size + 1) :: xs) (Value.ref (hp.objs.size + 1) :: ys) := .cons rfl rel
  have hl : (Value.ref (hp.objs.size + 1) :: ys).length = ps.length := by
    rw [← r2.length]
    exact F1.len _ _ _ _ hq
  have hz : us.length ≤ sizeLine := Nat.le_trans hus (by rw [sizeLine_eq]; decide)
  refine wpAny_call (callK F.excBase_ValueError (fun Y => refsVE_contains Y bm hbm) (I1.kIn _ _ hC) (PySem.W.looks_findIn I1.kIn J.iC) (fun self => PySem.W.bind_fn I1.kIn self J.tI) hz
    (codeAny_mono (F1.run _ X.stack _ _ ⟨Value.ref (hp.objs.size + 1) :: us, kw⟩ (Value.ref (hp.objs.size + 1) :: ys) _ _ E0 (hr.make C us kw) (I2.env0.make C us kw) (bind _ _ I2.kIn hl) r2 hq) fun r s' hq' => ?_))
  cases r with
  | error er => exact hq'.elim
  | ok fl =>
    cases fl with
    | ret u =>
      obtain ⟨v, H', I3, rv, ev, q3⟩ := I2.after hq'
      subst ev
      exact ⟨rv, ⟨V.ref (hp.objs.size + 1), H', I3, rfl, q3⟩⟩
    | next => exact hq'.elim
    | brk => exact hq'.elim
    | cont => exact hq'.elim
/-- C(e, ..) -/
theorem pe_exI (T : ExCl X.K X.mg x C) (J : ExIn X.K C fI) (F1 : FnOk X.prog X.w X.K X.mg X.base CX0 k fI fd ps sp) (hb : Binds X.K fd ps []) (hr : Room (k + 1) X.A) (ha : PA X (e :: es) ta)
    (hg : Gl X x := by rfl) (hdb : (x == ("__debug__" : Str)) = false := by decide)
    (he : starEach (e :: es) X.env = (false, eval e X.env) :: starEach es X.env := by rfl) (hpl : (backTo pos (starEach es X.env)).any (·.1) = false := by rfl) :
    PE X (.Call (.Name x p) (e :: es) [] pos) (tExI C sp id ta) := by
  refine ⟨fun pins s σ H Q I h => ?_⟩
  refine wpAny_Call_Name_kw (ld_glob I hg T.gC ?_ hdb)
  refine PySem.W.callWith_K (h₀ := X.base) I.ok.mod.kin T.ox.kC (thn (ha.run pos pins s σ H _ I h) fun us s1 hh => ?_) he hpl
  obtain ⟨vs, H1, I1, r1, hz, q1⟩ := hh
  refine ⟨I1.kIn, run_ex T.ox J F1 hr I1 r1 (fun s a hk hl => ?_) (by show us.length ≤ 1000; rw [← r1.length]; exact hz) q1⟩
  have z := hb s (Value.ref a :: us) hk (by rw [List.append_nil]; exact hl)
  rw [List.append_nil] at z
  exact z
/-- C(k = e, ..), all fields by their names: g puts them in order -/
theorem pe_exK {kws : List Keyword} {ks : List Str} {g : List Value → List Value} {gV : List V → List V} (T : ExCl X.K X.mg x C) (J : ExIn X.K C fI) (F1 : FnOk X.prog X.w X.K X.mg X.base CX0 k fI fd ps sp)
    (hgr : ∀ {vs : List V} {us : List Value}, Vals vs us → Vals (gV vs) (g us))
    (hb : ∀ (s : Shared) (u : Value) (ws : List Value), (u :: g ws).length = ps.length → BindsTo s fd ⟨[u], ks.zip ws⟩ (ps.zip (u :: g ws))) (hr : Room (k + 1) X.A) (hkw : PK X kws ta)
    (hg : Gl X x := by rfl) (hall : (backToKw pos (keywordEach kws X.env)).all (·.1.isSome) = true := by rfl) (hks : (backToKw pos (keywordEach kws X.env)).filterMap (·.1) = ks := by rfl)
    (hdb : (x == ("__debug__" : Str)) = false := by decide) (hpl : ((backTo pos (starEach [] X.env)).any (·.1) || (backToKw pos (keywordEach kws X.env)).any (·.1.isNone)) = false := by rfl) :
    PE X (.Call (.Name x p) [] kws pos) (tExI C sp gV ta) := by
  refine ⟨fun pins s σ H Q I h => ?_⟩
  refine wpAny_Call_Name_kw (ld_glob I hg T.gC ?_ hdb)
  refine PySem.W.callWith_KW0 (h₀ := X.base) I.ok.mod.kin T.ox.kC hall ?_ hpl
  refine thn (hkw.run pos pins s σ H _ I h) fun ws s2 hh => ?_
  obtain ⟨zs, H2, I2, rz, hz, q2⟩ := hh
  refine ⟨I2.kIn, ?_⟩
  rw [hks]
  exact run_ex (us := []) T.ox J F1 hr I2 (hgr rz) (fun s a hk hl => hb s (.ref a) ws hl) (by simp) q2
/-- C(), no own __init__ -/
def tEx0 (C : Addr) : TE := fun _ H Q => ∀ a, H a = none → Q (.ref a) (upd H a (exo a C none))
theorem pe_ex0 {bmB : List Value} {B newId initId : String} (F : ExcBaseFacts B newId initId bmB) (q : PySem.W.excIn X.K C bmB newId = true) (T : ExCl X.K X.mg x C) (hg : Gl X x := by rfl)
    (hdb : (x == ("__debug__" : Str)) = false := by decide) : PE X (.Call (.Name x p) [] [] pos) (tEx0 C) := by
  refine ⟨fun pins s σ H Q I h => ?_⟩
  refine wpAny_Call_Name_kw (ld_glob I hg T.gC ?_ hdb)
  refine PySem.W.callWith_K0 I.kIn T.ox.kC ?_
  show wpAny _ _ (call (.ref C) []) _ _ _
  obtain ⟨bm, N, nm, qn, bs, hdct, sn, sub, ab, col, dd, k0, k1, k2, k3, k5, mN, hC, hN, hni, T2⟩ := exc_obj I.kIn q
  refine wpAny_call_exc_subT F T2 hC hN hni (fun h' a hm => ?_) (by rw [sizeLine_eq]; decide)
  have hn : H a = none := I.hok.gone hm.new
  obtain ⟨t, ht, _, _⟩ := hm.there
  exact ⟨.ref a, upd H a (exo a C none), I.un (Un.laidN hm.keeps hm.new hn) (I.hok.laidN hm.keeps hn (exo_ok ht)), rfl, h a hn⟩
/-- e.f, e an error that is held -/
def tXfl (K : PySem.W.Frag) (f : Str) (te : TE) : TE := fun σ H Q => te σ H fun x H1 => ∃ (a C dx : Addr) (fs : List (Str × V)) (v : V), x = .ref a ∧ H1 a = some (exo a C (some dx)) ∧
  H1 dx = some (exd dx fs) ∧ XfC K C ∧ PySem.W.findIn K (.ref C) f = some none ∧ fs.lookup f = some v ∧ Q v H1
theorem pe_xfl {te : TE} {n : Str} (he : PE X e te) (hb : attributeBase e n X.env (eval e X.env) = eval e X.env := by rfl) : PE X (.Attribute e n pos) (tXfl X.K n te) := by
  refine ⟨fun pins s σ H Q I h => ?_⟩
  refine attr_of hb (thn (he.run pins s σ H _ I h) fun u s1 hh => ?_)
  obtain ⟨x, H1, I1, rx, a, C, dx, fs, v, ex, ea, ed, T, hno, l, q⟩ := hh
  subst ex
  obtain rfl : u = Value.ref a := rx
  obtain ⟨t1, ho⟩ := exo_at I1.hok ea
  obtain ⟨mA, hns, hr⟩ := exd_at I1.hok ed
  obtain ⟨od, hod, hl⟩ := lookIn_ns hns
  obtain ⟨u, hu, ru⟩ := RelO.some_of (v := v) (o := mA n) (by rw [← l]; exact hr n)
  have J : PySem.W.InstAt s1.heap a { cls := .ref C, dict := some dx, data := .fields #[.ref t1, .none, .none, .none, .bool false, .none] } C (some od) := ⟨ho, rfl, rfl, hod⟩
  exact HandSPX.exc_get I1.kIn J T.ga T.gg T.exC (PySem.W.findObj_own T.hdC hno rfl (by rw [hl, hu])) (handed_of ru) ⟨v, H1, I1.tok _, ru, q⟩
end
/-! isinstance of an error that is held -/
end Tq
namespace PySem.W
open PySem PySem.Spec PySem.Calls PyProof.Rows
section
variable {prog : Program} {w : World} {A : Around} {E : Value → Shared → Prop} {s : Shared} {K : Frag} {x D : Addr} {ox : Obj} {od : Option Obj}
theorem tq_findObj {C : Addr} {name : Str} {a g : Value} (hc : (clsIn K C).isSome = true) (ha : findIn K (.ref C) name = some (some a)) (hg : specialIn K a "__get__" = some (some g))
    (ht : takesIn K a = some true) : findObj K C od name = some (.bind g a) := by
  obtain ⟨cd, hc⟩ := Option.isSome_iff_exists.mp hc
  unfold findObj
  rw [hc, Option.bind_some, ha, Option.bind_some]
  simp [hg, ht]
theorem tq_class {Q : Option Value → Shared → Prop} (T : L2.ExcC K D) (X : K.In s.heap) (I : InstAt s.heap x ox D od) (h : Q (some (.ref D)) { s with toks := s.toks + 1 }) :
    wpAny (model prog w) A (getAttr? (.ref x) "__class__") Q E s := by
  obtain ⟨hga, hgt, hsub, hdct, ha, hn, htk, hm⟩ := T
  have hf : findObj K D od "__class__" = some (.bind (.builtin "getset_descriptor.__get__") (.builtin "object.__class__")) :=
    tq_findObj (by obtain ⟨cd, hc, _⟩ := any_some hdct; rw [hc]; rfl) ha hn htk
  obtain ⟨hp, g, d, t, os⟩ := s
  have L0 := I.type (M := model prog w)
  have L1 := looks_findIn (M := model prog w) X hga
  have L2 := looks_findIn (M := model prog w) X hgt
  have L3 := looks_find (M := model prog w) X I hf
  have sub : Looks (model prog w) hp (isInstance (.ref x) (.type "BaseException")) true := L0.andThen (looks_subIn X hsub)
  have x0 : (false && onTheHeap (Value.builtin "BaseException.__getattribute__")) = false := rfl
  have x2 : (Value.builtin "BaseException.__getattribute__" == Value.builtin "object.__getattribute__") = false := by decide +kernel
  have x1 : (onTheHeap (Value.ref D) && Value.builtin "BaseException.__getattribute__" == Value.builtin "object.__getattribute__") = false := by rw [x2]; rfl
  unfold getAttr? getAttrBy? getAttrBy
  refine wpAny_bind (wpAny_mkText (wpAny_bind (wpAny_attempt (wpAny_holding (wpAny_bind (L0.at (wpAny_bind (L1.at ?_))))))))
  show wpAny _ _ (if (onTheHeap (Value.ref D) && Value.builtin "BaseException.__getattribute__" == Value.builtin "object.__getattribute__") = true then _ else _) _ _ _
  rw [x1, if_neg Bool.false_ne_true]
  unfold getAttrByItsOwn hookBefore
  refine wpAny_bind ?_
  rw [if_pos (show onTheHeap (Value.ref D) = true from rfl)]
  refine L2.at ?_
  refine wpAny_bind (wpAny_attempt (wpAny_holding ?_))
  unfold callGetattribute
  rw [x0, if_neg Bool.false_ne_true]
  unfold boundAndCalled
  rw [PySem.F.excAttr_ValueError.ga.bind (.ref x)]
  refine wpAny_bind (wpAny_pure ?_)
  show wpAny _ _ (call (.builtin "BaseException.__getattribute__") [.ref x, .str "__class__" t]) _ _ _
  refine wpAny_call (codeAny_call_builtin PySem.F.excAttr_ValueError.ga.plain PySem.F.entry_bexc_ga ?_)
  refine @check_slot (model prog w) _ _ ⟨hp, g, d, t + 1, os⟩ "BaseException.__getattribute__" "BaseException" "__getattribute__" (.ref x) [.str "__class__" t] [] _
    (by decide +kernel) (by decide +kernel) sub (PySem.F.args_bexc_ga (.ref x) (.str "__class__" t)) ?_
  unfold Builtin.«object.__getattribute__»
  refine wpAny_bind (wpAny_of_eq (a := ((Value.ref x : Value), [Value.str "__class__" t])) (by first | rfl | (simp only [slotArgs]; rfl)) ?_)
  refine wpAny_bind (wpAny_pure (wpAny_bind (L0.at (wpAny_bind (L3.at ?_)))))
  show wpAny _ _ (holding [Value.builtin "object.__class__"] (call (.builtin "getset_descriptor.__get__") [.builtin "object.__class__", .ref x, .ref D]) >>= ret) _ _ _
  refine wpAny_bind (wpAny_holding (wpAny_call (class_get (s := ⟨hp, g, d, t + 1, os⟩) (ox := ox) (od := od) X I hm ?_)))
  refine wpAny_pure ?_
  show wpAny _ _ (handedOut (.ref D)) _ _ _
  rw [handedOut_of (v := .ref D) rfl]
  first
    | exact wpAny_pure (wpAny_pure h)
    | exact wpAny_pure h
    | exact wpAny_pure (wpAny_bind (wpAny_pure (wpAny_pure h)))
theorem tq_kitx (T : L2.ExcC K D) : KitX K (.ref x) (.ref D) (fun h => InstAt h x ox D od) where
  ty := fun _ _ _ I => I.type
  it := fun _ _ X _ => by
    obtain ⟨cdD, hcD, _⟩ := any_some T.hd
    unfold clsIn at hcD
    split at hcD
    · rename_i ho
      intro A' Q' E' s' k q
      unfold isType loadHead
      exact wpAny_bind (wpAny_loadPart (k _ _ (X _ _ ho)) (wpAny_pure q))
    · cases hcD
  ne := fun h tp dd its n sl X htp => by
    obtain ⟨cdD, hcD, _⟩ := any_some T.hd
    refine Bool.eq_false_iff.mpr fun q => ?_
    have e : D = tp := Value.ref.inj (beq_iff_eq.mp q)
    subst e
    unfold clsIn at hcD
    split at hcD
    · rename_i ho
      cases (X _ _ ho).symm.trans htp
    · cases hcD
  ca := fun X I k => tq_class T X I k
end
end PySem.W
namespace Tq
open PySem L2
def rIsX (K : PySem.W.Frag) : List V → Hp → VK → Prop := fun xs H Q => ∃ (a C : Addr) (d : Option Addr) (c : V) (u : Value) (b : Bool), xs = [.ref a, c] ∧ H a = some (exo a C d) ∧
  (∀ dx, d = some dx → ∃ fs, H dx = some (exd dx fs)) ∧ ExcC K C ∧ ClsV c u ∧ PySem.W.kitOne K (.ref C) u = some b ∧ Q (.bl b) H
theorem call_isX {X : Cx} : CallR X (.builtin "isinstance") (rIsX X.K) := by
  intro pins s σ H xs us Q I r h
  obtain ⟨a, C, d, c, u, b, rfl, ha, hd, T, k, e, q⟩ := h
  obtain ⟨u1, u2, rfl, r1, r2⟩ := vals2 r
  have e2 := k.eq r2
  subst e2
  obtain rfl : u1 = Value.ref a := r1
  obtain ⟨t1, ho⟩ := exo_at I.hok ha
  have J : ∃ od, PySem.W.InstAt s.heap a { cls := .ref C, dict := d, data := .fields #[.ref t1, .none, .none, .none, .bool false, .none] } C od := by
    cases d with
    | none => exact ⟨none, ho, rfl, rfl, trivial⟩
    | some dx =>
      obtain ⟨fs, hx⟩ := hd dx rfl
      obtain ⟨mA, ⟨o, es, ep, h1, _⟩, _⟩ := exd_at I.hok hx
      exact ⟨some o, ho, rfl, rfl, h1⟩
  obtain ⟨od, J⟩ := J
  exact PySem.W.kia_one (PySem.W.tq_kitx T) I.kIn J e (fun z => nomatch z) fun tk => ⟨.bl b, H, I.tok tk, rfl, q⟩
end Tq

/-! ### data: what is read of a value, how long its text is -/
namespace Tq
open PySem L2
theorem sqL_same {K : PySem.W.Frag} {H H' : Hp} {a : Addr} {xs : List V} (e : Same H H') (h : SqL K H a xs) : SqL K H' a xs := e.seq h
theorem sqT_same {K : PySem.W.Frag} {H H' : Hp} {a : Addr} {xs : List V} (e : Same H H') (h : SqT K H a xs) : SqT K H' a xs := by
  rcases h with (h | ⟨o, h⟩) | h
  · exact .inl (.inl (e _ _ h))
  · exact .inl (.inr ⟨o, e _ _ h⟩)
  · exact .inr h
section
variable {K : PySem.W.Frag} {H H' : Hp}
mutual
theorem dp_same (e : Same H H') : ∀ (d : PyData) (v : V), Dp K H v d → Dp K H' v d
  | .none, _, h => by cases h; exact .non
  | .bool b, _, h => by cases h; exact .bl b
  | .int i, _, h => by cases h; exact .int i
  | .str x, _, h => by cases h; exact .str x
  | .list ds, _, h => by
    cases h with
    | lst hs ha => exact .lst (sqL_same e hs) (dpAll_same e ds _ ha)
  | .tuple ds, _, h => by
    cases h with
    | tup hs ha => exact .tup (sqT_same e hs) (dpAll_same e ds _ ha)
  | .dict _, _, h => by cases h
theorem dpAll_same (e : Same H H') : ∀ (ds : List PyData) (vs : List V), DpAll K H vs ds → DpAll K H' vs ds
  | [], _, h => by cases h; exact .nil
  | d :: ds, _, h => by
    cases h with
    | cons h1 h2 => exact .cons (dp_same e d _ h1) (dpAll_same e ds _ h2)
end
end
/-! a bound of the text -/
mutual
def tx : PyData → Nat
  | .list xs => 2 + txAll xs
  | .tuple xs => 3 + txAll xs
  | .none => 4
  | .bool _ => 5
  | .int i => (toString i : Str).length
  | .str x => (reprText x).length
  | .dict _ => 0
def txAll : List PyData → Nat
  | [] => 0
  | x :: xs => tx x + 2 + txAll xs
end
theorem listText_len (ts : List Str) : (listText ts).length ≤ 2 + piled ts := by
  cases ts with
  | nil => decide +kernel
  | cons t r =>
    have h := textFrom_length_pos r 1 (("[" : Str) ++ (if (0 : Nat) > 0 then ", " else "" : String) ++ t) (Nat.succ_pos 0)
    have e : ((("[" : Str) ++ (if (0 : Nat) > 0 then ", " else "" : String) ++ t)).length = 1 + t.length := by
      rw [strLen_append, strLen_append]; rfl
    have hY : (textFrom 0 "[" (t :: r)).length = (textFrom 1 (("[" : Str) ++ (if (0 : Nat) > 0 then ", " else "" : String) ++ t) r).length := rfl
    show (textFrom 0 "[" (t :: r) ++ "]").length ≤ _
    rw [strLen_append, hY, h, e, piled_cons]
    show 1 + t.length + piled r + 1 ≤ _
    omega
theorem tupleText_len (ts : List Str) : (tupleText ts).length ≤ 3 + piled ts := by
  have e3 : (((if ts.length == 1 then ",)" else ")" : String) : Str)).length ≤ 2 := by split <;> decide +kernel
  have e1 : ((("(" : String) : Str)).length = 1 := rfl
  unfold tupleText
  rw [strLen_append, strLen_append, e1]
  by_cases h : ts = []
  · subst h
    decide +kernel
  · have := join_length_add ts h
    omega
mutual
theorem shown_le : ∀ d : PyData, d.hasDict = false → d.shown.length ≤ tx d
  | .none, _ => by decide +kernel
  | .bool b, _ => by cases b <;> decide +kernel
  | .int i, _ => by rw [PyData.shown, tx]; exact Nat.le_refl _
  | .str x, _ => by rw [PyData.shown, tx]; exact Nat.le_refl _
  | .list xs, h => by
    rw [PyData.shown, tx]
    have := listText_len (PyData.shownAll xs)
    have := shownAll_le xs (by simpa [PyData.hasDict] using h)
    omega
  | .tuple xs, h => by
    rw [PyData.shown, tx]
    have := tupleText_len (PyData.shownAll xs)
    have := shownAll_le xs (by simpa [PyData.hasDict] using h)
    omega
  | .dict _, h => by simp [PyData.hasDict] at h
theorem shownAll_le : ∀ xs : List PyData, PyData.hasDictAll xs = false → piled (PyData.shownAll xs) ≤ txAll xs
  | [], _ => by rw [PyData.shownAll, txAll, piled_nil]; exact Nat.le_refl 0
  | x :: xs, h => by
    rw [PyData.hasDictAll, Bool.or_eq_false_iff] at h
    rw [PyData.shownAll, txAll, piled_cons]
    have := shown_le x h.1
    have := shownAll_le xs h.2
    omega
end
/-- plain data: no dict in it, its ints of a known size -/
structure Plain (d : PyData) (n m : Nat) : Prop where
  sh : d.showable = true
  nd : d.hasDict = false
  dp : d.depth ≤ n
  tx : tx d ≤ m
structure PlainAll (ds : List PyData) (n m : Nat) : Prop where
  sh : PyData.showableAll ds = true
  nd : PyData.hasDictAll ds = false
  dp : PyData.depthAll ds ≤ n
  tx : txAll ds ≤ m
theorem Plain.mono {d : PyData} {n m n' m' : Nat} (h : Plain d n m) (a : n ≤ n') (b : m ≤ m') : Plain d n' m' := ⟨h.sh, h.nd, Nat.le_trans h.dp a, Nat.le_trans h.tx b⟩
theorem PlainAll.mono {d : List PyData} {n m n' m' : Nat} (h : PlainAll d n m) (a : n ≤ n') (b : m ≤ m') : PlainAll d n' m' := ⟨h.sh, h.nd, Nat.le_trans h.dp a, Nat.le_trans h.tx b⟩
theorem PlainAll.nil {n m : Nat} : PlainAll [] n m := ⟨rfl, rfl, by simp [PyData.depthAll], by simp [txAll]⟩
theorem PlainAll.cons {d : PyData} {ds : List PyData} {n m k : Nat} (h : Plain d n m) (hs : PlainAll ds n k) : PlainAll (d :: ds) n (m + 2 + k) := by
  refine ⟨?_, ?_, ?_, ?_⟩
  · rw [PyData.showableAll, h.sh, hs.sh]; rfl
  · rw [PyData.hasDictAll, h.nd, hs.nd]; rfl
  · rw [PyData.depthAll]
    have := h.dp
    have := hs.dp
    omega
  · rw [txAll]
    have := h.tx
    have := hs.tx
    omega
theorem PlainAll.head {d : PyData} {ds : List PyData} {n m : Nat} (h : PlainAll (d :: ds) n m) : Plain d n m ∧ PlainAll ds n m := by
  obtain ⟨h1, h2, h3, h4⟩ := h
  rw [PyData.showableAll, Bool.and_eq_true] at h1
  rw [PyData.hasDictAll, Bool.or_eq_false_iff] at h2
  rw [PyData.depthAll] at h3
  rw [txAll] at h4
  exact ⟨⟨h1.1, h2.1, by omega, by omega⟩, ⟨h1.2, h2.2, by omega, by omega⟩⟩
theorem plain_list {ds : List PyData} {n m : Nat} (h : PlainAll ds n m) : Plain (.list ds) (n + 1) (m + 2) := by
  obtain ⟨h1, h2, h3, h4⟩ := h
  refine ⟨by rw [PyData.showable]; exact h1, by rw [PyData.hasDict]; exact h2, by rw [PyData.depth]; omega, by rw [Tq.tx]; omega⟩
theorem plain_tuple {ds : List PyData} {n m : Nat} (h : PlainAll ds n m) : Plain (.tuple ds) (n + 1) (m + 3) := by
  obtain ⟨h1, h2, h3, h4⟩ := h
  refine ⟨by rw [PyData.showable]; exact h1, by rw [PyData.hasDict]; exact h2, by rw [PyData.depth]; omega, by rw [Tq.tx]; omega⟩
/-- a value that may be told by repr -/
def Rep (K : PySem.W.Frag) (H : Hp) (v : V) (n m : Nat) : Prop := ∃ d, Dp K H v d ∧ Plain d n m
theorem Rep.mono {K : PySem.W.Frag} {H : Hp} {v : V} {n m n' m' : Nat} (h : Rep K H v n m) (a : n ≤ n') (b : m ≤ m') : Rep K H v n' m' := let ⟨d, h1, h2⟩ := h; ⟨d, h1, h2.mono a b⟩
theorem Rep.same {K : PySem.W.Frag} {H H' : Hp} {v : V} {n m : Nat} (h : Rep K H v n m) (e : Same H H') : Rep K H' v n m := let ⟨d, h1, h2⟩ := h; ⟨d, dp_same e d v h1, h2⟩
def RepAll (K : PySem.W.Frag) (H : Hp) (vs : List V) (n m : Nat) : Prop := ∃ ds, DpAll K H vs ds ∧ PlainAll ds n m
theorem RepAll.nil {K : PySem.W.Frag} {H : Hp} {n m : Nat} : RepAll K H [] n m := ⟨[], .nil, PlainAll.nil⟩
theorem RepAll.cons {K : PySem.W.Frag} {H : Hp} {v : V} {vs : List V} {n m k : Nat} (h : Rep K H v n m) (hs : RepAll K H vs n k) : RepAll K H (v :: vs) n (m + 2 + k) := by
  obtain ⟨d, h1, h2⟩ := h
  obtain ⟨ds, g1, g2⟩ := hs
  exact ⟨d :: ds, .cons h1 g1, .cons h2 g2⟩
theorem RepAll.same {K : PySem.W.Frag} {H H' : Hp} {vs : List V} {n m : Nat} (h : RepAll K H vs n m) (e : Same H H') : RepAll K H' vs n m := let ⟨d, h1, h2⟩ := h; ⟨d, dpAll_same e d vs h1, h2⟩
theorem RepAll.mono {K : PySem.W.Frag} {H : Hp} {vs : List V} {n m n' m' : Nat} (h : RepAll K H vs n m) (a : n ≤ n') (b : m ≤ m') : RepAll K H vs n' m' := let ⟨d, h1, h2⟩ := h; ⟨d, h1, h2.mono a b⟩
theorem dpAll_snoc {K : PySem.W.Frag} {H : Hp} : ∀ {vs : List V} {ds : List PyData} {v : V} {d : PyData}, DpAll K H vs ds → Dp K H v d → DpAll K H (vs ++ [v]) (ds ++ [d])
  | [], _, _, _, h, g => by cases h; exact .cons g .nil
  | _ :: _, _, _, _, h, g => by
    cases h with
    | cons h1 h2 => exact .cons h1 (dpAll_snoc h2 g)
theorem plain_snoc {d : PyData} {n m : Nat} (h : Plain d n m) : ∀ {ds : List PyData} {k : Nat}, PlainAll ds n k → PlainAll (ds ++ [d]) n (k + (m + 2))
  | [], k, g => (PlainAll.cons h PlainAll.nil (k := 0)).mono (Nat.le_refl _) (by omega)
  | e :: ds, k, g => by
    obtain ⟨g1, g2, g3, g4⟩ := g
    rw [PyData.showableAll, Bool.and_eq_true] at g1
    rw [PyData.hasDictAll, Bool.or_eq_false_iff] at g2
    rw [PyData.depthAll] at g3
    rw [txAll] at g4
    have ih := plain_snoc h (ds := ds) (k := txAll ds) ⟨g1.2, g2.2, by omega, Nat.le_refl _⟩
    exact (PlainAll.cons (d := e) (m := tx e) ⟨g1.1, g2.1, by omega, Nat.le_refl _⟩ ih).mono (Nat.le_refl _) (by omega)
theorem RepAll.snoc {K : PySem.W.Frag} {H : Hp} {v : V} {vs : List V} {n m k : Nat} (hs : RepAll K H vs n k) (h : Rep K H v n m) : RepAll K H (vs ++ [v]) n (k + (m + 2)) := by
  obtain ⟨d, h1, h2⟩ := h
  obtain ⟨ds, g1, g2⟩ := hs
  exact ⟨ds ++ [d], dpAll_snoc g1 h1, plain_snoc h2 g2⟩
theorem rep_list {K : PySem.W.Frag} {H : Hp} {a : Addr} {vs : List V} {n m : Nat} (h : SqL K H a vs) (hs : RepAll K H vs n m) : Rep K H (.ref a) (n + 1) (m + 2) := let ⟨ds, g1, g2⟩ := hs; ⟨.list ds, .lst h g1, plain_list g2⟩
theorem rep_tuple {K : PySem.W.Frag} {H : Hp} {a : Addr} {vs : List V} {n m : Nat} (h : SqT K H a vs) (hs : RepAll K H vs n m) : Rep K H (.ref a) (n + 1) (m + 3) := let ⟨ds, g1, g2⟩ := hs; ⟨.tuple ds, .tup h g1, plain_tuple g2⟩
theorem rep_non {K : PySem.W.Frag} {H : Hp} {n m : Nat} (h : 4 ≤ m) : Rep K H .non n m := ⟨.none, .non, rfl, rfl, Nat.zero_le _, h⟩
theorem rep_bl {K : PySem.W.Frag} {H : Hp} {b : Bool} {n m : Nat} (h : 5 ≤ m) : Rep K H (.bl b) n m := ⟨.bool b, .bl b, rfl, rfl, Nat.zero_le _, h⟩
theorem rep_int {K : PySem.W.Frag} {H : Hp} {i : Int} {n m : Nat} (h1 : i.natAbs.log2 < 1920) (h : (toString i : Str).length ≤ m) : Rep K H (.int i) n m :=
  ⟨.int i, .int i, by rw [PyData.showable]; exact decide_eq_true h1, rfl, Nat.zero_le _, h⟩
theorem rep_str {K : PySem.W.Frag} {H : Hp} {x : Str} {n m : Nat} (h : (reprText x).length ≤ m) : Rep K H (.str x) n m := ⟨.str x, .str x, rfl, rfl, Nat.zero_le _, h⟩
/-! one list gets another item -/
mutual
theorem dp_app {K : PySem.W.Frag} {H : Hp} {b : Addr} {xs : List V} {y : V} {e : PyData} (hb : H b = some (.lst xs)) (he : ∀ H' : Hp, Dp K H' y e) (e1 : Plain e 0 2) :
    ∀ (d : PyData) (v : V) (n : Nat), Dp K H v d → Plain d n (tx d) → ∃ d', Dp K (upd H b (.lst (xs ++ [y]))) v d' ∧ Plain d' n (4 * tx d)
  | .none, _, _, h, p => by cases h; exact ⟨.none, .non, p.mono (Nat.le_refl _) (by omega)⟩
  | .bool c, _, _, h, p => by cases h; exact ⟨.bool c, .bl c, p.mono (Nat.le_refl _) (by omega)⟩
  | .int i, _, _, h, p => by cases h; exact ⟨.int i, .int i, p.mono (Nat.le_refl _) (by omega)⟩
  | .str x, _, _, h, p => by cases h; exact ⟨.str x, .str x, p.mono (Nat.le_refl _) (by omega)⟩
  | .list ds, _, n, h, p => by
    cases h with
    | @lst a zs _ hs ha =>
      obtain ⟨p1, p2, p3, p4⟩ := p
      rw [PyData.showable] at p1
      rw [PyData.hasDict] at p2
      rw [PyData.depth] at p3
      cases n with
      | zero => omega
      | succ n =>
        obtain ⟨ds', g1, g2⟩ := dpAll_app hb he e1 ds zs n ha ⟨p1, p2, by omega, Nat.le_refl _⟩
        have old : SqL K (upd H b (.lst (xs ++ [y]))) a zs ∨ (a = b ∧ zs = xs) := by
          by_cases hab : a = b
          · subst hab
            rcases hs with (hs | ⟨o, hs⟩) | hs
            · rw [hb] at hs
              cases hs
              exact Or.inr ⟨rfl, rfl⟩
            · rw [hb] at hs
              cases hs
            · exact Or.inl (.inr hs)
          · rcases hs with (hs | ⟨o, hs⟩) | hs
            · exact Or.inl (.inl (.inl (by rw [upd_ne hab]; exact hs)))
            · exact Or.inl (.inl (.inr ⟨o, by rw [upd_ne hab]; exact hs⟩))
            · exact Or.inl (.inr hs)
        rcases old with hs' | ⟨rfl, rfl⟩
        · refine ⟨.list ds', .lst hs' g1, (plain_list g2).mono (Nat.le_refl _) ?_⟩
          rw [tx]
          omega
        · refine ⟨.list (ds' ++ [e]), .lst (SqL.of upd_same) (dpAll_snoc g1 (he _)), (plain_list (plain_snoc (e1.mono (Nat.zero_le n) (Nat.le_refl _)) g2)).mono (Nat.le_refl _) ?_⟩
          rw [tx]
          omega
  | .tuple ds, _, n, h, p => by
    cases h with
    | @tup a zs _ hs ha =>
      obtain ⟨p1, p2, p3, p4⟩ := p
      rw [PyData.showable] at p1
      rw [PyData.hasDict] at p2
      rw [PyData.depth] at p3
      cases n with
      | zero => omega
      | succ n =>
        obtain ⟨ds', g1, g2⟩ := dpAll_app hb he e1 ds zs n ha ⟨p1, p2, by omega, Nat.le_refl _⟩
        have hs' : SqT K (upd H b (.lst (xs ++ [y]))) a zs := by
          rcases hs with (hs | ⟨o, hs⟩) | hs
          · exact .inl (.inl (by rw [upd_ne (ne_of hs hb (by intro z; cases z))]; exact hs))
          · exact .inl (.inr ⟨o, by rw [upd_ne (ne_of hs hb (by intro z; cases z))]; exact hs⟩)
          · exact .inr hs
        refine ⟨.tuple ds', .tup hs' g1, (plain_tuple g2).mono (Nat.le_refl _) ?_⟩
        rw [tx]
        omega
  | .dict _, _, _, h, _ => by cases h
theorem dpAll_app {K : PySem.W.Frag} {H : Hp} {b : Addr} {xs : List V} {y : V} {e : PyData} (hb : H b = some (.lst xs)) (he : ∀ H' : Hp, Dp K H' y e) (e1 : Plain e 0 2) :
    ∀ (ds : List PyData) (vs : List V) (n : Nat), DpAll K H vs ds → PlainAll ds n (txAll ds) → ∃ ds', DpAll K (upd H b (.lst (xs ++ [y]))) vs ds' ∧ PlainAll ds' n (4 * txAll ds)
  | [], _, _, h, _ => by cases h; exact ⟨[], .nil, PlainAll.nil⟩
  | d :: ds, _, n, h, p => by
    cases h with
    | cons h1 h2 =>
      obtain ⟨p1, p2, p3, p4⟩ := p
      rw [PyData.showableAll, Bool.and_eq_true] at p1
      rw [PyData.hasDictAll, Bool.or_eq_false_iff] at p2
      rw [PyData.depthAll] at p3
      obtain ⟨d', q1, q2⟩ := dp_app hb he e1 d _ n h1 ⟨p1.1, p2.1, by omega, Nat.le_refl _⟩
      obtain ⟨ds', r1, r2⟩ := dpAll_app hb he e1 ds _ n h2 ⟨p1.2, p2.2, by omega, Nat.le_refl _⟩
      refine ⟨d' :: ds', .cons q1 r1, (PlainAll.cons q2 r2).mono (Nat.le_refl _) ?_⟩
      rw [txAll]
      omega
end
theorem Rep.app {K : PySem.W.Frag} {H : Hp} {b : Addr} {xs : List V} {y : V} {e : PyData} {v : V} {n m : Nat} (hb : H b = some (.lst xs)) (he : ∀ H' : Hp, Dp K H' y e) (e1 : Plain e 0 2) (h : Rep K H v n m) :
    Rep K (upd H b (.lst (xs ++ [y]))) v n (4 * m) := by
  obtain ⟨d, h1, h2⟩ := h
  obtain ⟨d', g1, g2⟩ := dp_app hb he e1 d v n h1 ⟨h2.sh, h2.nd, h2.dp, Nat.le_refl _⟩
  have := h2.tx
  exact ⟨d', g1, g2.mono (Nat.le_refl _) (by omega)⟩
end Tq

/-! ### errors that are held, by their class and fields -/
namespace Tq
open PySem L2 PyProof.Rows
/-- an error of the class at C with these fields -/
def Er (H : Hp) (C : Addr) (v : V) (fs : List (Str × V)) : Prop := ∃ (a : Addr) (d : Option Addr), v = .ref a ∧ H a = some (exo a C d) ∧ ((d = none ∧ fs = []) ∨ ∃ dx, d = some dx ∧ H dx = some (exd dx fs))
theorem Er.same {H H' : Hp} {C : Addr} {v : V} {fs : List (Str × V)} (h : Er H C v fs) (e : Same H H') : Er H' C v fs := by
  obtain ⟨a, d, rfl, h1, h2⟩ := h
  refine ⟨a, d, rfl, e _ _ h1, ?_⟩
  rcases h2 with h2 | ⟨dx, h3, h4⟩
  · exact Or.inl h2
  · exact Or.inr ⟨dx, h3, e _ _ h4⟩
/-- a class below TreeError (at TE), as the top has made it -/
structure Kl (K : PySem.W.Frag) (mg : Str → Option Value) (x : Str) (C TE : Addr) : Prop where
  g : mg x = some (.ref C)
  lk : ∃ q N bs sn sub ab col dd k0 k1 k2 k3 k5, K.lookup C = some (excClassObj x q C N bs [.ref TE, .type "ValueError", .type "Exception", .type "BaseException", .type "object"] true sn sub ab col dd k0 k1 k2 k3 k5 "ValueError.__new__")
  ec : ExcC K C
  sa : PySem.W.findIn K (.ref C) "__setattr__" = some (some (.builtin "object.__setattr__"))
  ty : PySem.W.typeIn K (.ref C) = some (.type "type")
  kp : PySem.W.keepIn K (.ref C) = true
theorem kl_mk {K : PySem.W.Frag} {h : Heap} {mg : Str → Option Value} {x : Str} {C TE : Addr} {q : Str} {N : Addr} {bs : List Value} {sn : List Str} {sub : List Value} {ab : Bool} {col : Option Bool} {dd : Option Addr}
    {k0 k1 k2 k3 k5 : Option Value} (X : K.In h) (G : h.Ns mainGlobals mg) (a : PySem.W.nsIn K mainGlobals x = some (some (.ref C)))
    (l : K.lookup C = some (excClassObj x q C N bs [.ref TE, .type "ValueError", .type "Exception", .type "BaseException", .type "object"] true sn sub ab col dd k0 k1 k2 k3 k5 "ValueError.__new__"))
    (h1 : PySem.W.findIn K (.ref C) "__getattribute__" = some (some (.builtin "BaseException.__getattribute__"))) (h2 : PySem.W.findIn K (.ref C) "__getattr__" = some none)
    (h3 : PySem.W.subIn K (.ref C) (.type "BaseException") = some true) (h4 : PySem.W.hasDictIn K C = true) (h5 : PySem.W.findIn K (.ref C) "__class__" = some (some (.builtin "object.__class__")))
    (h6 : PySem.W.specialIn K (.builtin "object.__class__") "__get__" = some (some (.builtin "getset_descriptor.__get__"))) (h7 : PySem.W.takesIn K (.builtin "object.__class__") = some true)
    (h8 : PySem.W.mroIn K C (.type "object") = some true) (sa : PySem.W.findIn K (.ref C) "__setattr__" = some (some (.builtin "object.__setattr__")))
    (ty : PySem.W.typeIn K (.ref C) = some (.type "type")) (kp : PySem.W.keepIn K (.ref C) = true) : Kl K mg x C TE :=
  ⟨PySem.W.mg_of X G a, ⟨q, N, bs, sn, sub, ab, col, dd, k0, k1, k2, k3, k5, l⟩, ⟨h1, h2, h3, h4, h5, h6, h7, h8⟩, sa, ty, kp⟩
section
variable {K : PySem.W.Frag} {mg : Str → Option Value} {x y : Str} {C D TE : Addr}
theorem Kl.cl (T : Kl K mg x C TE) : ExCl K mg x C := by
  obtain ⟨q, N, bs, sn, sub, ab, col, dd, k0, k1, k2, k3, k5, l⟩ := T.lk
  exact ⟨T.g, ⟨⟨_, q, N, bs, _, sn, sub, ab, col, dd, k0, k1, k2, k3, k5, l, rfl⟩, T.sa, T.ec.hs, T.ty, T.kp⟩, T.ec⟩
theorem Kl.sub (T : Kl K mg x C TE) (b : Value) : PySem.W.subIn K (.ref C) b = some ([Value.ref C, .ref TE, .type "ValueError", .type "Exception", .type "BaseException", .type "object"].contains b) := by
  obtain ⟨q, N, bs, sn, sub, ab, col, dd, k0, k1, k2, k3, k5, l⟩ := T.lk
  show PySem.W.mroIn K C b = _
  unfold PySem.W.mroIn PySem.W.clsIn
  rw [l]
  rfl
theorem Kl.cls (T : Kl K mg x C TE) : (PySem.W.clsIn K C).isSome = true := by
  obtain ⟨q, N, bs, sn, sub, ab, col, dd, k0, k1, k2, k3, k5, l⟩ := T.lk
  unfold PySem.W.clsIn
  rw [l]
  rfl
theorem Kl.ne (T : Kl K mg x C TE) (U : Kl K mg y D TE) (h : x ≠ y) : C ≠ D := by
  rintro rfl
  obtain ⟨q, N, bs, sn, sub, ab, col, dd, k0, k1, k2, k3, k5, l⟩ := T.lk
  obtain ⟨q', N', bs', sn', sub', ab', col', dd', k0', k1', k2', k3', k5', l'⟩ := U.lk
  rw [l] at l'
  have e := congrArg (fun o : Option Obj => o.map (·.data)) l'
  simp only [excClassObj, Option.map_some, Option.some.injEq] at e
  injection e with e
  injection e with e
  exact h e
theorem Kl.kit_own (T : Kl K mg x C TE) : PySem.W.kitOne K (.ref C) (.ref C) = some true := by
  unfold PySem.W.kitOne
  rw [if_pos (beq_self_eq_true _)]
theorem Kl.kit_other (T : Kl K mg x C TE) (U : Kl K mg y D TE) (h : x ≠ y) (hD : D ≠ TE) : PySem.W.kitOne K (.ref C) (.ref D) = some false := by
  have ne := T.ne U h
  unfold PySem.W.kitOne
  rw [if_neg (by simpa using ne)]
  unfold PySem.W.kitCls
  simp only [U.cls, U.ty, T.sub]
  rw [if_pos (by decide)]
  have n1 : (Value.ref D == Value.ref C) = false := by simpa using Ne.symm ne
  have n2 : (Value.ref D == Value.ref TE) = false := by simpa using hD
  have n3 : ∀ s, (Value.ref D == Value.type s) = false := fun s => by simp
  simp [List.contains_cons, Ne.symm ne, hD]
theorem Kl.kit_ve (T : Kl K mg x C TE) : PySem.W.kitOne K (.ref C) (.type "ValueError") = some true := by
  unfold PySem.W.kitOne
  rw [if_neg (by simp)]
  show (if PySem.W.kitMeta "ValueError" = true then PySem.W.subIn K (.ref C) (.type "ValueError") else none) = some true
  rw [if_pos (by decide +kernel), T.sub]
  simp [List.contains_cons]
/-- TreeError itself -/
structure KT (K : PySem.W.Frag) (mg : Str → Option Value) (TE : Addr) : Prop where
  g : mg "TreeError" = some (.ref TE)
  cls : (PySem.W.clsIn K TE).isSome = true
  ty : PySem.W.typeIn K (.ref TE) = some (.type "type")
  nm : ∃ o, K.lookup TE = some o ∧ ∀ nm q N bs bm h sn sub ab col dd k0 k1 k2 k3 k5, o = excClassObj nm q TE N bs bm h sn sub ab col dd k0 k1 k2 k3 k5 "ValueError.__new__" → nm = "TreeError"
theorem Kl.kit_te (T : Kl K mg x C TE) (U : KT K mg TE) : PySem.W.kitOne K (.ref C) (.ref TE) = some true := by
  unfold PySem.W.kitOne
  split
  · rfl
  · unfold PySem.W.kitCls
    simp only [U.cls, U.ty, T.sub]
    rw [if_pos (by decide)]
    simp [List.contains_cons]
theorem Kl.ne_te (T : Kl K mg x C TE) (U : KT K mg TE) (h : x ≠ "TreeError") : C ≠ TE := by
  rintro rfl
  obtain ⟨q, N, bs, sn, sub, ab, col, dd, k0, k1, k2, k3, k5, l⟩ := T.lk
  obtain ⟨o, l', e⟩ := U.nm
  rw [l] at l'
  exact h (e _ _ _ _ _ _ _ _ _ _ _ _ _ _ _ _ (Option.some.inj l').symm)
end
/-- the own __init__ of a class, which keeps the fields by these names -/
def spI (K : PySem.W.Frag) (names : List Str) : Sp := fun vs H Q _ => ∃ (a C : Addr) (ws : List V), vs = .ref a :: ws ∧ ws.length = names.length ∧ OexC K C ∧ (∀ f ∈ names, PySem.W.findIn K (.ref C) f = some none) ∧
  H a = some (exo a C none) ∧ ∀ (H' : Hp) (dx : Addr), H dx = none → dx ≠ a → H' a = some (exo a C (some dx)) → H' dx = some (exd dx (names.zip ws).reverse) →
    (∀ b o, H b = some o → b ≠ a → H' b = some o) → Q .non H'
structure In1 (K : PySem.W.Frag) (C : Addr) (qual : Str) (st : Stmt) (names : List Str) : Prop where
  ex : ∃ (f : Addr) (fd : FuncData), ExIn K C f ∧ Fun K "__init__" qual st f fd
  no : ∀ f ∈ names, PySem.W.findIn K (.ref C) f = some none
theorem in1_mk {K : PySem.W.Frag} {C : Addr} {qual : Str} {st : Stmt} {names : List Str} {f : Addr} {oc : Value} {od an : Option Addr} {osl : Array (Option Value)} {kV doc pm cdv ct : Value}
    (a : PySem.W.findIn K (.ref C) "__init__" = some (some (.ref f))) (t : PySem.W.typeIn K (.ref f) = some (.type "function"))
    (l : K.lookup f = some ⟨oc, od, .func (PySem.W.fnOf "__init__" qual (defArgs st) (defBody st) (defScope st) .none kV doc pm an cdv ct), osl⟩)
    (c : PySem.W.codeIn K cdv qual = true) (k : PySem.W.keepIn K (.ref f) = true) (no : ∀ f ∈ names, PySem.W.findIn K (.ref C) f = some none) : In1 K C qual st names := ⟨⟨f, _, ⟨a, t⟩, fun_mk l c k⟩, no⟩
/-- an error class whose __init__ keeps its promise, made by place -/
structure Mk1 (P : Program) (w : World) (K : PySem.W.Frag) (mg : Str → Option Value) (base : Heap) (C : Addr) (names ps ks : List Str) (g : List Value → List Value) : Prop where
  ex : ∃ (f : Addr) (fd : FuncData), ExIn K C f ∧ L2.Binds K fd ps [] ∧ (∀ (s : Shared) (u : Value) (ws : List Value), (u :: g ws).length = ps.length → BindsTo s fd ⟨[u], ks.zip ws⟩ (ps.zip (u :: g ws))) ∧
    FnOk P w K mg base CX0 1 f fd ps (spI K names)
  no : ∀ f ∈ names, PySem.W.findIn K (.ref C) f = some none
section
variable {X : Cx} {C : Addr} {x : Str} {names ps ks : List Str} {g : List Value → List Value} {p pos : Pos} {e : Expr} {es : List Expr} {ta : TA}
/-- X(e, ..): what is left -/
def tEr (C : Addr) (names : List Str) (gV : List V → List V) (ta : TA) : TE := fun σ H Q => ta σ H fun vs H1 => (gV vs).length = names.length ∧ vs.length ≤ 1000 ∧ ∀ (v : V) (H2 : Hp), Same H1 H2 → Er H2 C v (names.zip (gV vs)).reverse → Q v H2
theorem tEr_of {K : PySem.W.Frag} {gV : List V → List V} (T : OexC K C) (no : ∀ f ∈ names, PySem.W.findIn K (.ref C) f = some none) {vs : List V} {H1 : Hp} {Q : VK} (hl : (gV vs).length = names.length)
    (h : ∀ (v : V) (H2 : Hp), Same H1 H2 → Er H2 C v (names.zip (gV vs)).reverse → Q v H2) (a : Addr) (ha : H1 a = none) : spI K names (.ref a :: gV vs) (upd H1 a (exo a C none)) (fun v H2 => v = .non ∧ Q (.ref a) H2) E0 := by
  refine ⟨a, C, gV vs, rfl, hl, T, no, upd_same, fun H' dx hd hne h1 h2 h3 => ⟨rfl, h _ _ (fun b o e => ?_) ⟨a, some dx, rfl, h1, Or.inr ⟨dx, rfl, h2⟩⟩⟩⟩
  have hb : b ≠ a := ne_of_none e ha
  exact h3 b o (by rw [upd_ne hb]; exact e) hb
/-- X(), no own __init__ -/
def tEr0 (C : Addr) : TE := fun _ H Q => ∀ (v : V) (H2 : Hp), Same H H2 → Er H2 C v [] → Q v H2
theorem pe_er0 (q : PySem.W.excIn X.K C [.type "ValueError", .type "Exception", .type "BaseException", .type "object"] "ValueError.__new__" = true) (T : ExCl X.K X.mg x C) (hg : Gl X x := by rfl)
    (hdb : (x == ("__debug__" : Str)) = false := by decide) : PE X (.Call (.Name x p) [] [] pos) (tEr0 C) := by
  have R := pe_ex0 (p := p) (pos := pos) PySem.F.excBase_ValueError q T hg hdb
  refine ⟨fun pins s σ H Q I h => R.run pins s σ H Q I fun a ha => h _ _ (fun b o e => ?_) ⟨a, none, rfl, upd_same, Or.inl ⟨rfl, rfl⟩⟩⟩
  rw [upd_ne (ne_of_none e ha)]
  exact e
theorem pe_er (T : ExCl X.K X.mg x C) (M : Mk1 X.prog X.w X.K X.mg X.base C names ps ks g) (hr : Room 2 X.A) (ha : PA X (e :: es) ta)
    (hg : Gl X x := by rfl) (hdb : (x == ("__debug__" : Str)) = false := by decide)
    (he : starEach (e :: es) X.env = (false, eval e X.env) :: starEach es X.env := by rfl) (hpl : (backTo pos (starEach es X.env)).any (·.1) = false := by rfl) :
    PE X (.Call (.Name x p) (e :: es) [] pos) (tEr C names id ta) := by
  obtain ⟨f, fd, J, hb, _, F⟩ := M.ex
  refine ⟨fun pins s σ H Q I h => ?_⟩
  refine wpAny_Call_Name_kw (ld_glob I hg T.gC ?_ hdb)
  refine PySem.W.callWith_K (h₀ := X.base) I.ok.mod.kin T.ox.kC (thn (ha.run pos pins s σ H _ I h) fun us s1 hh => ?_) he hpl
  obtain ⟨vs, H1, I1, r1, hl, hz, q1⟩ := hh
  refine ⟨I1.kIn, run_ex T.ox J F hr I1 r1 (fun s a hk hl => ?_) (by show us.length ≤ 1000; rw [← r1.length]; exact hz) (tEr_of (gV := id) T.ox M.no hl q1)⟩
  have z := hb s (Value.ref a :: us) hk (by rw [List.append_nil]; exact hl)
  rw [List.append_nil] at z
  exact z
/-- .. made by the names of the fields -/
theorem pe_erK {kws : List Keyword} {gV : List V → List V} (T : ExCl X.K X.mg x C) (M : Mk1 X.prog X.w X.K X.mg X.base C names ps ks g)
    (hgr : ∀ {vs : List V} {us : List Value}, Vals vs us → Vals (gV vs) (g us))
    (hr : Room 2 X.A) (hkw : PK X kws ta)
    (hg : Gl X x := by rfl) (hall : (backToKw pos (keywordEach kws X.env)).all (·.1.isSome) = true := by rfl) (hks : (backToKw pos (keywordEach kws X.env)).filterMap (·.1) = ks := by rfl)
    (hdb : (x == ("__debug__" : Str)) = false := by decide) (hpl : ((backTo pos (starEach [] X.env)).any (·.1) || (backToKw pos (keywordEach kws X.env)).any (·.1.isNone)) = false := by rfl) :
    PE X (.Call (.Name x p) [] kws pos) (tEr C names gV ta) := by
  obtain ⟨f, fd, J, _, kb, F⟩ := M.ex
  refine ⟨fun pins s σ H Q I h => ?_⟩
  refine wpAny_Call_Name_kw (ld_glob I hg T.gC ?_ hdb)
  refine PySem.W.callWith_KW0 (h₀ := X.base) I.ok.mod.kin T.ox.kC hall ?_ hpl
  refine thn (hkw.run pos pins s σ H _ I h) fun ws s2 hh => ?_
  obtain ⟨zs, H2, I2, rz, hl, hz, q2⟩ := hh
  refine ⟨I2.kIn, ?_⟩
  rw [hks]
  exact run_ex (us := []) T.ox J F hr I2 (hgr rz) (fun s a hk hl => kb s (.ref a) ws hl) (by simp) (tEr_of T.ox M.no hl q2)
end
end Tq

/-! ### what is new in a heap -/
namespace Tq
open PySem L2
/-- the part of H' that H has not -/
def nw (H H' : Hp) : Hp := fun b => if H b = none then H' b else none
theorem nw_of {H H' : Hp} {b : Addr} {o : HO} (h : H b = none) (h' : H' b = some o) : nw H H' b = some o := by
  unfold nw
  rw [if_pos h]
  exact h'
theorem of_nw {H H' : Hp} {b : Addr} {o : HO} (h : nw H H' b = some o) : H b = none ∧ H' b = some o := by
  unfold nw at h
  split at h
  · exact ⟨by assumption, h⟩
  · cases h
theorem nw_sub {H H' : Hp} : Same (nw H H') H' := fun b o e => (of_nw e).2
/-- the new part stands, if H grows to G and H' to G' beside it -/
theorem nw_same {H H' G G' : Hp} (h1 : ∀ b, H b = none → H' b ≠ none → G b = none) (h2 : ∀ b o, H b = none → H' b = some o → G' b = some o) : Same (nw H H') (nw G G') := fun b o e => by
  obtain ⟨e1, e2⟩ := of_nw e
  exact nw_of (h1 b e1 (by rw [e2]; exact nofun)) (h2 b o e1 e2)
/-- pick(stream, some) -/
def spPick (K : PySem.W.Frag) : Sp := fun vs H Q _ => ∃ (a l p : Addr) (xs : List V) (c : Nat), vs = [.ref a, .ref p] ∧ c < 4000000 ∧ Strm H a l c ∧ SqL K (off a l H) p xs ∧ xs ≠ [] ∧ xs.length < 1000000000 ∧
  ∀ (v : V) (H' : Hp), v ∈ xs → Strm H' a l (c + 1) → Nx a l H H' → Q v H'
/-- a statement and what follows it, by a word J between them -/
theorem seq_split {s rest : TS} {D : Ends} {σ : St} {H : Hp} (J : St → Hp → Prop) (hJ : ∀ σ H, J σ H → rest D σ H) (h : (∀ σ H, J σ H → rest D σ H) → s { D with nx := rest D } σ H) : tSeq s rest D σ H := h hJ
theorem seq_if {c : TT} {t u rest : TS} {D : Ends} {σ : St} {H : Hp} (J : St → Hp → Prop) (hJ : ∀ σ H, J σ H → rest D σ H) (h : (∀ σ H, J σ H → rest D σ H) → tIfS c t u { D with nx := rest D } σ H) : tSeq (tIfS c t u) rest D σ H := h hJ
theorem seq_for {wi : TI} {g : TG} {tb rest : TS} {D : Ends} {σ : St} {H : Hp} (J : St → Hp → Prop) (hJ : ∀ σ H, J σ H → rest D σ H) (h : (∀ σ H, J σ H → rest D σ H) → tFor wi g tb { D with nx := rest D } σ H) : tSeq (tFor wi g tb) rest D σ H := h hJ
theorem nm {i : Nat} {v : V} {σ : St} {H : Hp} {Q : St → Hp → Prop} (h : Q (σ.set i (some v)) H) : gName i v σ H Q := h
theorem yes {σ : St} {H : Hp} {A B : Hp → Prop} (h : A H) : tYes σ H (fun b H3 => if b = true then A H3 else B H3) := by
  show if true = true then A H else B H
  rw [if_pos rfl]
  exact h
theorem same_new {H : Hp} {p : Addr} {o : HO} (hp : H p = none) : Same H (upd H p o) := fun b u e => by
  rw [upd_ne (ne_of_none e hp)]
  exact e
/-- a new object: its heap by a letter -/
theorem alloc {Q : VK} {H : Hp} {o : HO} (h : ∀ p H', H p = none → Same H H' → H' p = some o → Q (.ref p) H') : ∀ p, H p = none → Q (.ref p) (upd H p o) := fun p hp => h p _ hp (same_new hp) upd_same
theorem atI_mem {xs : List V} {r : Int} (h0 : 0 ≤ r) (h1 : r < xs.length) : ∃ v, atI xs r = some v ∧ v ∈ xs := by
  have h : r.toNat < xs.length := by omega
  refine ⟨xs[r.toNat], ?_, List.getElem_mem h⟩
  exact at_of (j := r.toNat) (by omega) (List.getElem?_eq_getElem h)
end Tq

/-! ### tables of the top: dicts with text keys whose values are tuples of texts -/
namespace Tq
open PySem L2 PyProof.Rows
/-- a tuple of texts in the written part -/
structure KTx (K : PySem.W.Frag) (a : Addr) (rows : List Str) : Prop where
  ex : ∃ (o : Obj) (its : Array Value) (n : Nat), K.lookup a = some o ∧ o.cls = .type "tuple" ∧ o.data = .seq its n ∧ its.size ≤ sizeLine ∧ Vals (rows.map V.str) its.toList
theorem KTx.sq {K : PySem.W.Frag} {a : Addr} {rows : List Str} (h : KTx K a rows) (H : Hp) : SqT K H a (rows.map V.str) := .inr h.ex
def strsB : List Value → List Str → Bool
  | [], [] => true
  | .str x _ :: r, y :: s => decide (x = y) && strsB r s
  | _, _ => false
theorem strsB_ok : ∀ {us : List Value} {rows : List Str}, strsB us rows = true → Vals (rows.map V.str) us
  | [], [], _ => .nil
  | .str x t :: r, y :: s, h => by
    rw [strsB, Bool.and_eq_true] at h
    exact .cons ⟨t, by rw [of_decide_eq_true h.1]⟩ (strsB_ok h.2)
  | [], _ :: _, h => by simp [strsB] at h
  | .str _ _ :: _, [], h => by simp [strsB] at h
  | .none :: _, _, h => by simp [strsB] at h
  | .bool _ :: _, _, h => by simp [strsB] at h
  | .int _ _ :: _, _, h => by simp [strsB] at h
  | .float _ _ :: _, _, h => by simp [strsB] at h
  | .bytes _ _ :: _, _, h => by simp [strsB] at h
  | .ref _ :: _, _, h => by simp [strsB] at h
  | .type _ :: _, _, h => by simp [strsB] at h
  | .builtin _ :: _, _, h => by simp [strsB] at h
  | .ellipsis :: _, _, h => by simp [strsB] at h
  | .notImplemented :: _, _, h => by simp [strsB] at h
def ktxB (K : PySem.W.Frag) (a : Addr) (rows : List Str) : Bool := match K.lookup a with
  | some ⟨.type c, _, .seq its _, _⟩ => decide (c = "tuple") && (decide (its.size ≤ 1000) && strsB its.toList rows)
  | _ => false
theorem ktxB_ok {K : PySem.W.Frag} {a : Addr} {rows : List Str} (h : ktxB K a rows = true) : KTx K a rows := by
  unfold ktxB at h
  split at h
  · rename_i c od its n sl q
    rw [Bool.and_eq_true, Bool.and_eq_true] at h
    exact ⟨_, its, n, q, by rw [of_decide_eq_true h.1], rfl, Nat.le_trans (of_decide_eq_true h.2.1) (by rw [sizeLine_eq]; decide), strsB_ok h.2.2⟩
  · cases h
def entB (K : PySem.W.Frag) : List DictEntry → List (Str × List Str) → Bool
  | [], [] => true
  | e :: r, p :: s => (match e.key, e.val with | .str x _, .ref a => decide (x = p.1) && ktxB K a p.2 | _, _ => false) && entB K r s
  | _, _ => false
def EntOk (K : PySem.W.Frag) : DictEntry → Str × List Str → Prop := fun e p => (∃ t, e.key = .str p.1 t) ∧ ∃ a, e.val = .ref a ∧ KTx K a p.2
theorem entB_ok {K : PySem.W.Frag} : ∀ {l : List DictEntry} {tb : List (Str × List Str)}, entB K l tb = true → Paired (EntOk K) l tb
  | [], [], _ => .nil
  | e :: r, p :: s, h => by
    rw [entB, Bool.and_eq_true] at h
    refine .cons ?_ (entB_ok h.2)
    have h1 := h.1
    split at h1
    · rename_i x t a q1 q2
      rw [Bool.and_eq_true] at h1
      exact ⟨⟨t, by rw [q1, of_decide_eq_true h1.1]⟩, a, q2, ktxB_ok h1.2⟩
    · cases h1
  | [], _ :: _, h => by simp [entB] at h
  | _ :: _, [], h => by simp [entB] at h
/-- the table stands at d -/
structure STab (K : PySem.W.Frag) (w : World) (d : Addr) (tb : List (Str × List Str)) : Prop where
  ex : ∃ es n, KDict K w d es n ∧ Paired (EntOk K) es.toList tb
def stabB (K : PySem.W.Frag) (d : Addr) (tb : List (Str × List Str)) : Bool := match K.lookup d with
  | some ⟨_, _, .dict es _, _⟩ => entB K es.toList tb
  | _ => false
theorem stab_of {K : PySem.W.Frag} {w : World} {d : Addr} {tb : List (Str × List Str)} {ks : List Str} (h1 : He.dicW K d = some (He.keysIn w.params ks)) (h2 : stabB K d tb = true) : STab K w d tb := by
  obtain ⟨es, n, D⟩ := He.dicW_ok h1
  refine ⟨es, n, D, ?_⟩
  unfold stabB at h2
  rw [D.at_] at h2
  exact entB_ok h2
theorem find_ent {K : PySem.W.Frag} {z : Str} : ∀ {l : List DictEntry} {tb : List (Str × List Str)}, Paired (EntOk K) l tb →
    (∀ rows, tb.lookup z = some rows → ∃ e a, l.find? (·.key.isStr z) = some e ∧ e.val = .ref a ∧ KTx K a rows) ∧ (tb.lookup z = none → l.find? (·.key.isStr z) = none) ∧ l.any (·.refKey) = false
  | _, _, .nil => ⟨fun rows h => by simp at h, fun _ => rfl, rfl⟩
  | e :: l, (x, rs) :: tb, .cons h t => by
    obtain ⟨⟨tk, hk⟩, a, hv, hx⟩ := h
    obtain ⟨i1, i2, i3⟩ := find_ent (z := z) t
    have hs : e.key.isStr z = decide (x = z) := by
      rw [hk, PySem.W.isStr_of]
      simp only [Value.isStrOf]
      exact Bool.beq_eq_decide_eq _ _
    have hr : e.refKey = false := by
      unfold DictEntry.refKey
      rw [hk]
    by_cases c : x = z
    · subst c
      have hl : ((x, rs) :: tb).lookup x = some rs := by simp [List.lookup]
      refine ⟨fun rows h => ?_, fun h => ?_, by simp [hr]; simpa using i3⟩
      · rw [hl] at h
        cases h
        exact ⟨e, a, by rw [List.find?_cons_of_pos (by rw [hs]; simp)], hv, hx⟩
      · rw [hl] at h
        cases h
    · have hl : ((x, rs) :: tb).lookup z = tb.lookup z := by
        have : (z == x) = false := by simpa using Ne.symm c
        simp [List.lookup, this]
      have hf : (e :: l).find? (·.key.isStr z) = l.find? (·.key.isStr z) := List.find?_cons_of_neg (by rw [hs]; simpa using c)
      rw [hl, hf]
      exact ⟨i1, i2, by simp [hr]; simpa using i3⟩
theorem STab.got {K : PySem.W.Frag} {w : World} {d : Addr} {tb : List (Str × List Str)} (T : STab K w d tb) {z : Str} {rows : List Str} (h : tb.lookup z = some rows) : ∃ a, PySem.W.nsIn K d z = some (some (.ref a)) ∧ KTx K a rows := by
  obtain ⟨es, n, D, P⟩ := T.ex
  obtain ⟨e, a, h1, h2, h3⟩ := (find_ent (z := z) P).1 rows h
  refine ⟨a, ?_, h3⟩
  unfold PySem.W.nsIn
  rw [D.at_]
  simp only [h1, h2]
theorem STab.miss {K : PySem.W.Frag} {w : World} {d : Addr} {tb : List (Str × List Str)} (T : STab K w d tb) {z : Str} (h : tb.lookup z = none) : PySem.W.nsIn K d z = some none := by
  obtain ⟨es, n, D, P⟩ := T.ex
  obtain ⟨_, h1, h2⟩ := find_ent (z := z) P
  unfold PySem.W.nsIn
  rw [D.at_]
  simp only [h1 h, h2]
  rfl
/-- z in D, D a table -/
theorem op_in_tab {X : Cx} {d : Addr} {tb : List (Str × List Str)} (T : STab X.K X.w d tb) : OpR X (compareOp .In) (fun x y H Q => ∃ z, x = .str z ∧ y = .ref d ∧ Q (.bl (tb.lookup z).isSome) H) := by
  intro pins s σ H x y v u Q I rx ry h
  obtain ⟨z, rfl, rfl, q⟩ := h
  obtain ⟨es, n, D, _⟩ := T.ex
  cases e : tb.lookup z with
  | none =>
    rw [e] at q
    exact op_in_kd D pins s σ H _ _ v u Q I rx ry ⟨z, _, rfl, rfl, T.miss e, q⟩
  | some rows =>
    rw [e] at q
    obtain ⟨a, h1, _⟩ := T.got e
    exact op_in_kd D pins s σ H _ _ v u Q I rx ry ⟨z, _, rfl, rfl, h1, q⟩
/-- D[z] -/
theorem ix_tab {X : Cx} {d : Addr} {tb : List (Str × List Str)} (T : STab X.K X.w d tb) : IxR X (fun x y H Q => ∃ z rows, x = .ref d ∧ y = .str z ∧ tb.lookup z = some rows ∧ ∀ a, KTx X.K a rows → Q (.ref a) H) := by
  intro value slice pins s σ H x y v u Q I rx ry h hs
  obtain ⟨z, rows, rfl, rfl, e, q⟩ := h
  obtain ⟨es, n, D, _⟩ := T.ex
  obtain ⟨a, h1, h2⟩ := T.got e
  exact ix_kdict value slice pins s σ H _ _ v u Q I rx ry ⟨d, z, .ref a, rfl, rfl, ⟨es, n, _, D.at_, D.lit, h1, rfl⟩, q a h2⟩ hs
/-- for k in D: its keys -/
def Itkd (ks : List Str) : It := ⟨fun i _ => i < ks.length, fun i H x H' => H' = H ∧ ∃ k, ks[i]? = some k ∧ x = .str k, fun i _ => ks.length ≤ i⟩
theorem ent_key {K : PySem.W.Frag} : ∀ {l : List DictEntry} {tb : List (Str × List Str)}, Paired (EntOk K) l tb → ∀ {i : Nat} {k : Str}, (tb.map (·.1))[i]? = some k → ∃ e t, l[i]? = some e ∧ e.key = .str k t
  | _, _, .nil, i, k, h => by simp at h
  | e :: l, p :: tb, .cons h t, 0, k, hk => by
    obtain ⟨⟨tk, q⟩, _⟩ := h
    have : p.1 = k := by simpa using hk
    exact ⟨e, tk, rfl, by rw [q, this]⟩
  | e :: l, p :: tb, .cons h t, i + 1, k, hk => by
    obtain ⟨e', t', h1, h2⟩ := ent_key t (i := i) (k := k) (by simpa using hk)
    exact ⟨e', t', by simpa using h1, h2⟩
theorem turn_kd {P : Program} {w : World} {K : PySem.W.Frag} {tg : Expr} {d : Addr} {es : Array DictEntry} {n : Nat} {tb : List (Str × List Str)} (it : Addr) (D : KDict K w d es n) (hp : Paired (EntOk K) es.toList tb) :
    Turn P w K tg (Itkd (tb.map (·.1))) [it] it (fun i h => h.IsKeyIter it d i es.size n) where
  mem := by simp
  obj := fun i h st b hb => by
    obtain rfl : b = it := by simpa using hb
    obtain ⟨oi, e, c, dd⟩ := st
    exact ⟨oi, e, fun v z => by rw [dd] at z; cases z⟩
  keep := fun i h h' st k => st.at fun oi e => k it (by simp) oi e
  item := by
    intro X hP hw hK hc i pins s σ H E I hf st hg
    subst hP hw hK
    obtain ⟨f0, f1, f2, f3, f4, f5⟩ := hf it (by simp)
    obtain ⟨k, hk⟩ : ∃ k, (tb.map (·.1))[i]? = some k := ⟨(tb.map (·.1))[i]'hg, List.getElem?_eq_getElem hg⟩
    obtain ⟨en, t, h1, h2⟩ := ent_key hp hk
    refine next_key_item (en := en) st (I.kIn _ _ D.at_) rfl rfl (by simpa using h1) fun h' st' sb => ?_
    have I1 : Inv X pins σ H { s with heap := h' } := I.turned (t' := s.toks) (fun b ob hb e => (sb.2 b hb).trans e) f0 f1 f3 f4 f5
    obtain ⟨oi, e, c, dd⟩ := id st'
    exact ⟨en.key, rfl, go_of (s := { s with heap := h' }) e c dd (by decide) ⟨.str k, H, I1, ⟨t, h2⟩, ⟨rfl, k, hk, rfl⟩, st', fun b hb => (hf b hb).1⟩⟩
  done := by
    intro X hP hw hK hc i pins s σ H E I hf st hg
    subst hP hw hK
    obtain ⟨f0, f1, f2, f3, f4, f5⟩ := hf it (by simp)
    have hl : es.size = tb.length := by
      have := Paired.length hp
      simpa using this
    refine next_key_end (I.ok.hd hc) st (I.kIn _ _ D.at_) rfl rfl ?_ fun h' eb => ⟨rfl, I.turned (t' := s.toks) (fun b ob hb e => eb b ob hb e) f0 f1 f3 f4 f5⟩
    have : (tb.map (·.1)).length ≤ i := hg
    rw [List.length_map] at this
    omega
  self := fun A i s Q E st h => wpAny_pyIter_keyiter st h
theorem pi_kd {X : Cx} {tg e : Expr} {td : TE} {d : Addr} {tb : List (Str × List Str)} (T : STab X.K X.w d tb) (he : PE X e td) : PI X tg e (fun σ H R => td σ H fun x H1 => x = .ref d ∧ R (Itkd (tb.map (·.1))) H1) := by
  obtain ⟨es, n, D, P⟩ := T.ex
  refine ⟨fun pins s σ H R I h => ?_⟩
  refine thn (he.run pins s σ H _ I h) fun u s1 hh => ?_
  obtain ⟨x, H1, I1, rx, ex, q⟩ := hh
  subst ex
  obtain rfl : u = Value.ref d := rx
  exact iter_keys D.low (I1.kIn _ _ D.at_) ⟨rfl, rfl, rfl⟩ rfl (pi_one (tk := s1.toks) I1 _ (turn_kd _ D P) ⟨_, Heap.get?_push_size _ rfl, rfl, rfl⟩ q)
/-- a comprehension over such keys -/
theorem lc_kd {ks : List Str} {g : TG} {tt : TT} {te : TE} {vs : List Nat} {σ : L2.St} {H1 : Hp} {D : Addr} {Qd : Hp → Prop} (Pv : Nat → Hp → Prop) (h0 : Pv 0 (upd H1 D (.lst [])))
    (hs : ∀ i k H, ks[i]? = some k → Pv i H → g (.str k) (wipe σ vs) H fun σ2 H2 => wipe σ2 vs = wipe σ vs ∧ tt σ2 H2 fun b H3 =>
      if b = true then te σ2 H3 fun y H4 => ∃ acc, H4 D = some (.lst acc) ∧ acc.length < sizeLine ∧ Pv (i + 1) (upd H4 D (.lst (acc ++ [y]))) else Pv (i + 1) H3) (hd : ∀ H, Pv ks.length H → Qd H) :
    ∃ W : Nat → Nat → Hp → Prop, (∃ m, W 0 m (upd H1 D (.lst []))) ∧ ∀ i m H, W i m H →
      ((Itkd ks).stop i H ∧ Qd H) ∨ ((Itkd ks).go i H ∧ ∃ Nx : Hp → Prop, (∀ H', Nx H' → ∃ m', m' < m ∧ W (i + 1) m' H') ∧ ∀ x H', (Itkd ks).yld i H x H' → g x (wipe σ vs) H' fun σ2 H2 => wipe σ2 vs = wipe σ vs ∧ tt σ2 H2 fun b H3 =>
        if b = true then te σ2 H3 fun y H4 => ∃ acc, H4 D = some (.lst acc) ∧ acc.length < sizeLine ∧ Nx (upd H4 D (.lst (acc ++ [y]))) else Nx H3) := by
  refine ⟨fun i m H => m = ks.length - i ∧ i ≤ ks.length ∧ Pv i H, ⟨ks.length, by simp, Nat.zero_le _, h0⟩, ?_⟩
  rintro i m H ⟨rfl, hi, p⟩
  by_cases hlt : i < ks.length
  · refine .inr ⟨hlt, Pv (i + 1), fun H' p' => ⟨ks.length - (i + 1), by omega, rfl, hlt, p'⟩, fun x H' y => ?_⟩
    obtain ⟨rfl, k, hk, rfl⟩ := y
    exact hs i k _ hk p
  · obtain rfl : i = ks.length := by omega
    exact .inl ⟨Nat.le_refl _, hd H p⟩
end Tq

/-! ### Tq: a method with *parts and **more: what a call with keywords binds -/
namespace Tq
open PySem L2 PySem.Spec PyProof.Rows
/-- a name written into a dict that does not hold it -/
theorem ns_dk {P : Program} {w : World} {A : Around} {E : Value → Shared → Prop} {s : Shared} {d : Addr} {vs : List (Key × Value)} {k : Str} {v : Value} {Q : Unit → Shared → Prop}
    (hm : s.heap.DictOf (mixKind P w) d vs) (hn : (Sum.inr k : Key) ∉ vs.map (·.1))
    (h : ∀ h', h'.DictOf (mixKind P w) d (vs ++ [(Sum.inr k, v)]) → Heap.SameBut d s.heap h' → Q () { s with heap := h', toks := s.toks + 1 }) :
    wpAny (model P w) A (nsSet d k v) Q E s := by
  obtain ⟨o, es, ep, ho, hc, hd, hk, hp, nd⟩ := hm
  obtain ⟨oc, od, dt, sl⟩ := o
  obtain rfl : dt = .dict es ep := hd
  have his : ∀ e ∈ es, e.key.isStr k = false := fun e he => by
    obtain ⟨k', hk', _⟩ := hk e he
    cases hz : e.key.isStr k with
    | false => rfl
    | true =>
      exfalso
      obtain ⟨i, hi⟩ := List.getElem?_of_mem (Array.mem_toList_iff.mpr he)
      have mem : ∀ {l : List DictEntry} {ks : List (Key × Value)}, Pairs (mixKind P w) l ks → ∀ x ∈ l, ∃ y ∈ ks, keyIs y.1 x.key = true := by
        intro l ks hpp
        induction hpp with
        | nil => exact fun x hx => nomatch hx
        | cons h1 _ _ ih =>
          intro x hx
          rcases List.mem_cons.mp hx with q | q
          · subst q; exact ⟨_, .head _, h1⟩
          · obtain ⟨y, hy, z⟩ := ih x q; exact ⟨y, .tail _ hy, z⟩
      obtain ⟨y, hy, z⟩ := mem hp e (Array.mem_toList_iff.mpr he)
      rcases keyIs_shape z with ⟨i, t, e1, e2⟩ | ⟨x, t, e1, e2⟩
      · rw [e2] at hz; exact nomatch hz
      · rw [e2] at hz
        have hx : x = k := by simpa [Value.isStr] using hz
        subst hx
        exact hn (List.mem_map.mpr ⟨y, hy, e1⟩)
  have hr : ∀ e ∈ es, e.refKey = false := fun e he => by
    obtain ⟨k', hk', _⟩ := hk e he
    rcases keyIs_shape hk' with ⟨i, t, e1, e2⟩ | ⟨x, t, e1, e2⟩ <;> (unfold DictEntry.refKey; rw [e2])
  have c : aRefKeyMayBeTheName k es = false := by
    rw [aRefKeyMayBeTheName_at]
    have : es.any (·.refKey) = false := by
      rw [Array.any_eq_false']
      intro e he
      rw [hr e he]
      exact Bool.false_ne_true
    rw [this, Bool.and_false]
  have put : ∀ (t : Tok), Obj.putName k (PyData.keyHash w.params k) (.str k t) v ⟨oc, od, .dict es ep, sl⟩ = ⟨oc, od, .dict (es.push ⟨PyData.keyHash w.params k, .str k t, v⟩) (ep + 1), sl⟩ := fun t => by
    rw [Obj.putName_eq]
    have : es.findIdx? (·.key.isStr k) = none := by
      rw [Array.findIdx?_eq_none_iff]
      exact his
    simp only [Obj.putNameByArray, this]
  unfold nsSet
  refine wpAny_bind (wpAny_bind (wpAny_askSetting (wpAny_pure (wpAny_bind (wpAny_mkText (wpAny_bind (wpAny_loadPart ho ?_)))))))
  dsimp only
  rw [c]
  refine wpAny_updatePart ho (h _ ⟨⟨oc, od, .dict (es.push ⟨PyData.keyHash w.params k, .str k s.toks, v⟩) (ep + 1), sl⟩, _, _, ?_, hc, rfl, hk.push (mixKind_str P w k s.toks) v, ?_, ?_⟩ (Heap.SameBut.update ..))
  · rw [← put]
    exact Heap.get?_update_self _ ho (congrArg Obj.isFreed (put s.toks))
  · have := hp.append (mixKind_str P w k s.toks) (PyData.keyHash w.params k) v
    obtain ⟨l⟩ := es
    simpa using this
  · rw [List.map_append, List.nodup_append]
    refine ⟨nd, by simp, ?_⟩
    intro a ha b hb
    simp only [List.map_cons, List.map_nil, List.mem_singleton] at hb
    subst hb
    exact fun e => hn (e ▸ ha)
theorem ns_fill {P : Program} {w : World} {A : Around} {E : Value → Shared → Prop} {d : Addr} : ∀ (kw : List (Str × Value)) (s : Shared) (vs : List (Key × Value)) (Q : PUnit → Shared → Prop),
    s.heap.DictOf (mixKind P w) d vs → (∀ x ∈ kw, (Sum.inr x.1 : Key) ∉ vs.map (·.1)) → (kw.map (·.1)).Nodup →
    (∀ h' t, h'.DictOf (mixKind P w) d (vs ++ kw.map fun x => (Sum.inr x.1, x.2)) → Heap.SameBut d s.heap h' → Q ⟨⟩ { s with heap := h', toks := t }) →
    wpAny (model P w) A (forIn kw PUnit.unit fun x _ => (nsSet d x.1 x.2 >>= fun _ => pure (ForInStep.yield PUnit.unit))) Q E s
  | [], s, vs, Q, hm, _, _, h => by
    rw [List.forIn_nil]
    refine wpAny_pure (h s.heap s.toks ?_ (.refl ..))
    simpa using hm
  | x :: r, s, vs, Q, hm, hf, hn, h => by
    obtain ⟨hn1, hn2⟩ := List.nodup_cons.mp (show (x.1 :: r.map (·.1)).Nodup from hn)
    rw [List.forIn_cons]
    refine wpAny_bind (wpAny_bind (ns_dk hm (hf x (.head _)) fun h' hm' hs => wpAny_pure ?_))
    refine ns_fill r { s with heap := h', toks := s.toks + 1 } _ Q hm' (fun y hy hz => ?_) hn2 fun h2 t hm2 hs2 => ?_
    · rw [List.map_append] at hz
      rcases List.mem_append.mp hz with q | q
      · exact hf y (.tail _ hy) q
      · have : y.1 = x.1 := by simpa using q
        exact hn1 (by rw [← this]; exact List.mem_map_of_mem hy)
    · refine h h2 t ?_ (hs.trans hs2)
      simpa using hm2
/-- the objects that a call's binding makes: a tuple of what is left over, a dict of the keywords -/
abbrev kdOf (ks : List Str) (zs : List V) : List (Key × V) := (ks.map Sum.inr).zip zs
structure FnKw (P : Program) (w : World) (K : PySem.W.Frag) (mg : Str → Option Value) (base : Heap) (CX : CXT) (k : Nat) (f : Addr) (ps : List Str) (sp : Sp) : Prop where
  run : ∀ (A : Around) (outer : List Env) (s : Shared) (H : Hp) (us rus ws : List Value) (vs rest zs : List V) (ks : List Str) (Q : VK) (E : XK),
    Quiet A → Room k A → Env0 P w K mg base A outer s H → Vals vs us → Vals rest rus → Vals zs ws → vs.length = ps.length → rest.length ≤ sizeLine → ks.length = zs.length → zs.length ≤ sizeLine → ks.Nodup → (∀ x ∈ ks, x ∉ ps) →
    (∀ p d, H p = none → H d = none → d ≠ p → sp (vs ++ [V.ref p, V.ref d]) (upd (upd H p (.tup rest)) d (.dK (kdOf ks zs))) Q E) →
    codeAny (model P w) A (.call (.ref f) ⟨us ++ rus, ks.zip ws⟩) (CR CX outer P w H s Q E) s
theorem kv_of : ∀ {ks : List Str} {zs : List V} {ws : List Value}, Vals zs ws → ks.length = zs.length → KV (kdOf ks zs) ((ks.zip ws).map fun x => (Sum.inr x.1, x.2))
  | [], [], _, .nil, _ => .nil
  | k :: ks, _, _, .cons a r, h => .cons ⟨rfl, a⟩ (kv_of r (by simpa using h))
/-- the loop of a call's binding over keywords that are no parameters -/
theorem bind_loop {β : Type} {f : (Str × Value) → β × List (Str × Value) → Sem (ForInStep (β × List (Str × Value)))} : ∀ (kw : List (Str × Value)) (sl : β) (ex : List (Str × Value)),
    (∀ x ∈ kw, ∀ sl ex, f x (sl, ex) = pure (.yield (sl, ex ++ [x]))) → forIn kw (sl, ex) f = pure (sl, ex ++ kw)
  | [], sl, ex, _ => by rw [List.forIn_nil, List.append_nil]
  | x :: r, sl, ex, h => by
    rw [List.forIn_cons, h x (.head _)]
    show (pure _ >>= _ : Sem _) = _
    rw [pure_bind]
    show forIn r (sl, ex ++ [x]) f = _
    rw [bind_loop r sl (ex ++ [x]) fun y hy => h y (.tail _ hy), List.append_assoc]
    rfl
theorem bind_kw {name qual : Str} {a1 a2 va ka : Arg} {body : List Stmt} {scope : Scope} {kV doc pm : Value} {an : Option Addr} {cdv ct : Value} (a b : Value) (rest : List Value) (kw : List (Str × Value))
    (h : ∀ x ∈ kw, x.1 ≠ a1.arg ∧ x.1 ≠ a2.arg) (hz : kw.length ≤ sizeLine) (hne : (a2.arg == a1.arg) = false) :
    bindArgs (PySem.W.fnOf name qual ⟨[], [a1, a2], some va, [], [], some ka, []⟩ body scope .none kV doc pm an cdv ct) ⟨a :: b :: rest, kw⟩ =
      (newTuple rest >>= fun t => (PySem.alloc ({ cls := .type "dict", data := .dict #[] } : Obj) : Sem Addr) >>= fun d => (forIn kw PUnit.unit fun x _ => (nsSet d x.1 x.2 >>= fun _ => pure (ForInStep.yield PUnit.unit))) >>= fun _ => pure [(a1.arg, a), (a2.arg, b), (va.arg, t), (ka.arg, Value.ref d)]) := by
  unfold bindArgs
  dsimp only [PySem.W.fnOf]
  rw [bind_loop]
  · have e0 : seqItems? Value.none = (pure none : Sem (Option (Array Value))) := rfl
    have hz2 : ¬ (sizeLine + 1 < kw.length) := by omega
    simp [e0, List.lookup, hne, hz2]
  · intro x hx sl ex
    obtain ⟨h1, h2⟩ := h x hx
    simp [h1, h2]
section
variable {P : Program} {w : World} {K : PySem.W.Frag} {mg : Str → Option Value} {base : Heap} {A : Around} {outer : List Env} {s : Shared} {H : Hp}
theorem env0_kept {h' : Heap} {t : Nat} {u : HO} (e0 : Env0 P w K mg base A outer s H) (kp : ∀ b x, s.heap.get? b = some x → h'.get? b = some x) (le : s.heap.objs.size ≤ h'.objs.size)
    (new : ObjOk P w (upd H s.heap.objs.size u) h' s.heap.objs.size u) :
    Env0 P w K mg base A outer { s with heap := h', toks := t } (upd H s.heap.objs.size u) := by
  refine ⟨e0.frames, e0.mod, fun b x e => ⟨kp b x (e0.bs b x e).1, ?_⟩, ?_, Heap.FunFrames.of_keeps (fun b x e _ => ⟨x, kp b x e, rfl⟩) e0.funs, fun b hb => ?_, e0.hok.laid kp (Nat.le_refl _) new, e0.bare⟩
  · rw [upd_ne (Nat.ne_of_lt (Heap.lt_size (e0.bs b x e).1))]
    exact (e0.bs b x e).2
  · exact Nat.le_trans e0.bsz le
  · obtain ⟨_, x, hx, _⟩ := e0.funs.mem hb
    rw [upd_ne (Nat.ne_of_lt (Heap.lt_size hx))]
    exact e0.frf b hb
end
/-- def f(self, kind, *parts, **more), by its body -/
theorem okKw {P : Program} {w : World} {K : PySem.W.Frag} {mg : Str → Option Value} {base : Heap} {CX : CXT} {k : Nat} {f : Addr} {x qual : Str} {st : Stmt} {fd : FuncData} {N : List Str} {sp : Sp} {a1 a2 va ka : Arg}
    (F : Fun K x qual st f fd) (hp : defArgs st = ⟨[], [a1, a2], some va, [], [], some ka, []⟩) (S : FnScope N [a1.arg, a2.arg, va.arg, ka.arg] (defScope st)) (hCX : StX.CXUp CX) (hne : (a2.arg == a1.arg) = false)
    (body : ∀ (cdv : Value) (A : Around) (outer : List Env) (s : Shared) (H : Hp) (vs : List V) (Q : VK) (E : XK),
      Quiet (A.deeper (envOfC qual (defScope st) s.heap.objs.size f cdv)) → Room k (A.deeper (envOfC qual (defScope st) s.heap.objs.size f cdv)) → sp vs H Q E →
      ∃ t, PSs (cxOf CX P w K mg base N qual (defScope st) f cdv A outer s H E) (defBody st) t ∧
        t { nx := fun _ H' => Q .non H', rt := Q } (start N vs) H) : FnKw P w K mg base CX (k + 1) f [a1.arg, a2.arg] sp := by
  obtain ⟨oc, od, kV, doc, pm, an, cdv, ct, osl, rfl, lk, hcd⟩ := F.ex
  refine ⟨fun A outer s H us rus ws vs rest zs ks Q E hq hr e0 r rr rz hl hz hk hkz hnd hno h => ?_⟩
  have hn : H s.heap.objs.size = Option.none := e0.hok.fresh (Nat.le_refl _)
  have hl1 : us.length = 2 := by rw [← r.length]; exact hl
  obtain ⟨a, b, rfl⟩ : ∃ a b, us = [a, b] := by
    match us, hl1 with
    | [a, b], _ => exact ⟨a, b, rfl⟩
  have hl2 : rus.length ≤ sizeLine := by rw [← rr.length]; exact hz
  have hw : ks.length = ws.length := by rw [hk, rz.length]
  refine StX.run_bnd lk hcd S hr e0 (G := fun xs H2 => ∃ p d, H p = Option.none ∧ H d = Option.none ∧ d ≠ p ∧ xs = vs ++ [V.ref p, V.ref d] ∧ H2 = upd (upd H p (.tup rest)) d (.dK (kdOf ks zs))) (fun A' Ex Q' hh => ?_) fun s2 H2 xs ⟨p, d, hp, hd, hne, ex, eH⟩ hr' => ?_
  · rw [hp]
    show wpAny (model P w) A' (bindArgs _ ⟨a :: b :: rus, ks.zip ws⟩) Q' Ex s
    rw [bind_kw a b rus (ks.zip ws) (fun y hy => by
      have := hno y.1 (List.of_mem_zip hy).1
      exact ⟨fun e => this (by rw [e]; exact .head _), fun e => this (by rw [e]; exact .tail _ (.head _))⟩) (by rw [List.length_zip, ← hw, Nat.min_self, hk]; exact hkz) hne]
    refine wpAny_bind (wpAny_newTuple (wpAny_bind (wpAny_alloc (wpAny_bind ?_))) hl2)
    have new : ObjOk P w (upd H s.heap.objs.size (.tup rest)) (s.heap.push ({ cls := .type "tuple", data := .seq rus.toArray } : Obj)) s.heap.objs.size (.tup rest) := ⟨hz, rus, rr, ⟨_, Heap.get?_push_size _ rfl, rfl, _, rfl⟩⟩
    have e1 := StX.env0_laid e0 new
    have un1 := StX.un_laid (fs := frs outer) (s := s) (o := ({ cls := .type "tuple", data := .seq rus.toArray } : Obj)) (u := .tup rest) hn
    generalize e0h : s.heap.push ({ cls := .type "tuple", data := .seq rus.toArray } : Obj) = h1 at e1 un1 ⊢
    have sz : h1.objs.size = s.heap.objs.size + 1 := by rw [← e0h]; exact Heap.size_push _ _
    have kp1 : ∀ b o, s.heap.get? b = some o → h1.get? b = some o := fun b o q => by rw [← e0h]; exact Heap.get?_push_of_some _ q
    have hn2 := e1.hok.fresh (Nat.le_refl _)
    have big := StX.env0_big e1
    refine ns_fill (ks.zip ws) _ [] _ (Heap.DictOf.new h1) (fun _ _ q => nomatch q) ?_ fun h' t dd hs => ?_
    · have : (ks.zip ws).map (·.1) = ks := by rw [← List.unzip_fst, List.unzip_zip hw]
      rw [this]
      exact hnd
    have kp2 : ∀ b o, h1.get? b = some o → h'.get? b = some o := fun b o q => by
      rw [hs.2 b (Nat.ne_of_lt (Heap.lt_size q))]
      exact Heap.get?_push_of_some _ q
    have le2 : h1.objs.size ≤ h'.objs.size := by
      have := hs.1
      have e := Heap.size_push h1 ({ cls := .type "dict", data := .dict #[] } : Obj)
      dsimp only at this
      omega
    have new2 : ObjOk P w (upd (upd H s.heap.objs.size (.tup rest)) h1.objs.size (.dK (kdOf ks zs))) h' h1.objs.size (.dK (kdOf ks zs)) :=
      dk_new (by rw [List.length_zip, List.length_map, hk, Nat.min_self]; exact hkz) (beq_eq_false_iff_ne.mpr (Nat.ne_of_gt big)) (kv_of rz hk) dd
    have e2 := env0_kept (t := t) e1 kp2 le2 new2
    have un2 := un1.trans (Un.laid (fs := frs outer) (ex := []) (o := .dK (kdOf ks zs)) kp2 (Nat.le_refl _) hn2)
    have ne : h1.objs.size ≠ s.heap.objs.size := by
      rw [sz]
      exact Nat.succ_ne_self _
    have hd : H h1.objs.size = Option.none := e0.hok.fresh (by rw [sz]; exact Nat.le_succ _)
    have z := hh _ _ (vs ++ [V.ref s.heap.objs.size, V.ref h1.objs.size]) ([a, b] ++ [Value.ref s.heap.objs.size, Value.ref h1.objs.size]) e2 un2 rfl
      (fun e s' => hCX outer s H _ _ E e s' un2 (fun b o q => kp2 b o (kp1 b o q)) rfl) (r.append (.cons rfl (.cons rfl .nil))) (by rw [List.length_append, hl] <;> rfl) ⟨_, _, hn, hd, ne, rfl, rfl⟩
    exact wpAny_pure z
  · subst ex eH
    exact body cdv A outer s2 _ _ Q E hq hr' (h p d hp hd hne)
/-- a class that is made by such an __init__ -/
structure Nd (P : Program) (w : World) (K : PySem.W.Frag) (mg : Str → Option Value) (base : Heap) (CX : CXT) (k : Nat) (x : Str) (C : Addr) (p1 p2 : Str) (sp : Sp) : Prop where
  ex : ∃ f, Mk K C f ∧ FnKw P w K mg base CX k f [p1, p2] sp
  mg : mg x = some (.ref C)
/-- C(e, rest.., k = v, ..) : the values vs are those of the positional arguments, zs those of the keywords ks -/
def tMakeW (C : Addr) (ks : List Str) (sp : Sp) (E : XK) (t tk : TA) : TE := fun σ H Q => t σ H fun vs H1 => tk σ H1 fun zs H2 => ∃ v rest, vs = v :: rest ∧ rest.length ≤ sizeLine ∧ zs.length = ks.length ∧
  ∀ x dx p d, H2 x = none → H2 dx = none → dx ≠ x → H2 p = none → H2 d = none → p ≠ x → p ≠ dx → d ≠ x → d ≠ dx → d ≠ p →
    sp [V.ref x, v, V.ref p, V.ref d] (upd (upd (upd (upd H2 dx (.own x)) x (.ins C dx [])) p (.tup rest)) d (.dK (kdOf ks zs))) (fun v H3 => v = .non ∧ Q (.ref x) H3) E
section
variable {X : Cx} {CX : CXT} {j k : Nat} {f C : Addr} {ks : List Str} {sp : Sp} {E : XK} {x p1 p2 : Str} {p pos : Pos} {e : Expr} {es : List Expr} {kws : List Keyword} {t tk : TA}
theorem run_makeW {pins : List (Addr × Obj)} {σ : L2.St} {H : Hp} {s : Shared} {Q : VK} {rus ws : List Value} {v : V} {u : Value} {rest zs : List V} (M : Mk X.K C f) (F : FnKw X.prog X.w X.K X.mg X.base CX k f [p1, p2] sp) (hq : Quiet X.A) (hr : Room (k + 1) X.A)
    (hx : Passes CX X E) (I : Inv X pins σ H s) (ru : RelV v u) (rr : Vals rest rus) (rz : Vals zs ws) (l1 : rest.length ≤ sizeLine) (l2 : ks.length = zs.length) (hnd : ks.Nodup) (hno : ∀ y ∈ ks, y ∉ [p1, p2]) (l3 : ks.length ≤ sizeLine)
    (h : ∀ x dx p d, H x = none → H dx = none → dx ≠ x → H p = none → H d = none → p ≠ x → p ≠ dx → d ≠ x → d ≠ dx → d ≠ p →
      sp [V.ref x, v, V.ref p, V.ref d] (upd (upd (upd (upd H dx (.own x)) x (.ins C dx [])) p (.tup rest)) d (.dK (kdOf ks zs))) (fun v H3 => v = .non ∧ Q (.ref x) H3) E) :
    wpAny (model X.prog X.w) X.A (call (.ref C) (u :: rus) (ks.zip ws)) (EP X pins σ Q) X.xe s := by
  have hq0 := h (s.heap.objs.size + 1) s.heap.objs.size
  have I2 := Inv.made (C := C) I
  refine wpAny_call (make_map (f := f) I.kIn M.makes M.init (beq_iff_eq.mp M.fn) (codeAny_mono (F.run _ X.stack _ _ [Value.ref (s.heap.objs.size + 1), u] rus ws [V.ref (s.heap.objs.size + 1), v] rest zs ks (fun v H3 => v = .non ∧ Q (.ref (s.heap.objs.size + 1)) H3) E ?_ (hr.make C (u :: rus) (ks.zip ws))
    (I2.env0.make C (u :: rus) (ks.zip ws)) (.cons rfl (.cons ru .nil)) rr rz rfl l1 l2 (l2 ▸ l3) hnd hno fun p d hp hd hne => ?_) fun r s' hq' => ?_))
  · have hg : (Code.builtin "type.__call__" ⟨Value.ref C :: u :: rus, ks.zip ws⟩).guards = [] := by simp [Code.guards, Code.isGuard, guardIds]
    show (X.A.under _).guards = some []
    unfold Around.under
    dsimp only
    rw [hg]
    exact hq
  · have nx : p ≠ s.heap.objs.size + 1 := fun e => by subst e; rw [upd_same] at hp; cases hp
    have ndx : p ≠ s.heap.objs.size := fun e => by subst e; rw [upd_ne nx, upd_same] at hp; cases hp
    have dx : d ≠ s.heap.objs.size + 1 := fun e => by subst e; rw [upd_same] at hd; cases hd
    have ddx : d ≠ s.heap.objs.size := fun e => by subst e; rw [upd_ne dx, upd_same] at hd; cases hd
    rw [upd_ne nx, upd_ne ndx] at hp
    rw [upd_ne dx, upd_ne ddx] at hd
    exact hq0 p d (I.hok.fresh (Nat.le_succ _)) (I.hok.fresh (Nat.le_refl _)) (Nat.ne_of_lt (Nat.lt_succ_self _)) hp hd nx ndx dx ddx hne
  · cases r with
    | error e => exact hx pins σ _ _ e s' I2 hq'
    | ok fl =>
      cases fl with
      | ret u =>
        obtain ⟨v, H', I3, rv, ev, q3⟩ := I2.after hq'
        subst ev
        exact ⟨rv, ⟨V.ref (s.heap.objs.size + 1), H', I3, rfl, q3⟩⟩
      | next => exact False.elim hq'
      | brk => exact False.elim hq'
      | cont => exact False.elim hq'
theorem pe_makeW (M : Nd X.prog X.w X.K X.mg X.base CX k x C p1 p2 sp) (hq : Quiet X.A) (hr : Room j X.A) (hx : Passes CX X E) (ha : PA X (e :: es) t) (hkw : PK X kws tk)
    (hnd : ks.Nodup := by decide) (hno : ∀ y ∈ ks, y ∉ [p1, p2] := by decide) (hkj : k + 1 ≤ j := by omega) (hg : Gl X x := by rfl)
    (hall : (backToKw pos (keywordEach kws X.env)).all (·.1.isSome) = true := by rfl) (hks : (backToKw pos (keywordEach kws X.env)).filterMap (·.1) = ks := by rfl)
    (hdb : (x == ("__debug__" : Str)) = false := by decide) (he : starEach (e :: es) X.env = (false, eval e X.env) :: starEach es X.env := by rfl)
    (hpl : ((backTo pos (starEach (e :: es) X.env)).any (·.1) || (backToKw pos (keywordEach kws X.env)).any (·.1.isNone)) = false := by rfl) (l3 : ks.length ≤ sizeLine := by decide) :
    PE X (.Call (.Name x p) (e :: es) kws pos) (tMakeW C ks sp E t tk) := by
  obtain ⟨f, mk, F⟩ := M.ex
  refine ⟨fun pins s σ H Q I h => ?_⟩
  refine wpAny_Call_Name_kw (ld_glob I hg M.mg ?_ hdb)
  refine PySem.W.callWith_KW (h₀ := X.base) I.ok.mod.kin mk.kp hall (thn (ha.run pos pins s σ H _ I h) fun us s1 ⟨vs, H1, I1, r, q⟩ => ?_) hpl he
  refine thn (hkw.run pos pins s1 σ H1 _ I1 q) fun ws s2 ⟨zs, H2, I2, rz, v, rest, ev, l1, l2, q2⟩ => ⟨I2.kIn, ?_⟩
  rw [hks]
  subst ev
  cases r with
  | cons ru rr => exact run_makeW mk F hq (hr.mono hkj) hx I2 ru rr rz l1 l2.symm hnd hno l3 q2
/-- C(e, rest..) -/
theorem pe_makeW0 (M : Nd X.prog X.w X.K X.mg X.base CX k x C p1 p2 sp) (hq : Quiet X.A) (hr : Room j X.A) (hx : Passes CX X E) (ha : PA X (e :: es) t)
    (hkj : k + 1 ≤ j := by omega) (hg : Gl X x := by rfl)
    (hdb : (x == ("__debug__" : Str)) = false := by decide) (he : starEach (e :: es) X.env = (false, eval e X.env) :: starEach es X.env := by rfl)
    (hpl : (backTo pos (starEach es X.env)).any (·.1) = false := by rfl) :
    PE X (.Call (.Name x p) (e :: es) [] pos) (tMakeW C [] sp E t tNil) := by
  obtain ⟨f, mk, F⟩ := M.ex
  refine ⟨fun pins s σ H Q I h => ?_⟩
  refine wpAny_Call_Name_kw (ld_glob I hg M.mg ?_ hdb)
  refine PySem.W.callWith_K (h₀ := X.base) I.ok.mod.kin mk.kp (thn (ha.run pos pins s σ H _ I h) fun us s1 ⟨vs, H1, I1, r, q⟩ => ⟨I1.kIn, ?_⟩) he hpl
  obtain ⟨v, rest, ev, l1, l2, q2⟩ := q
  subst ev
  cases r with
  | cons ru rr => exact run_makeW (ks := []) (ws := []) (zs := []) mk F hq (hr.mono hkj) hx I1 ru rr .nil l1 rfl List.nodup_nil (fun _ z => nomatch z) (Nat.zero_le _) q2
end
end Tq

/-! ### Tq: dict(zip(t, u)) of two tuples -/
namespace Tq
open PySem L2 PySem.Spec PyProof.Rows
section
variable {prog : Program} {w : World} {A : Around} {E : Value → Shared → Prop} {s : Shared}
/-- the next pair of two tuples, where the pair that was given out last is still there -/
theorem zt_item {z TI TO T i1 i2 l1 l2 : Addr} {f : Bool} {oT : Obj} {k1 k2 : Nat} {xs ys : Array Value} {x y : Value} {Q : Option Value → Shared → Prop} (D : ZipApart z TI TO i1 i2 l1 l2)
    (hz : IsZipHeld s.heap z TI TO T f) (hT : s.heap.get? T = some oT) (hTI : IsPair s.heap TI (.ref i1) (.ref i2))
    (h1 : s.heap.IsTupleIter i1 l1 k1) (h2 : s.heap.IsTupleIter i2 l2 k2) (hl1 : s.heap.IsTuple l1 xs) (hl2 : s.heap.IsTuple l2 ys) (hx : xs[k1]? = some x) (hy : ys[k2]? = some y)
    (hQ : ∀ h', IsZipHeld h' z TI TO T true → h'.IsTupleIter i1 l1 (k1 + 1) → h'.IsTupleIter i2 l2 (k2 + 1) → IsPair h' s.heap.objs.size x y → h'.objs.size = s.heap.objs.size + 1 →
      (∀ c o, c ≠ z → c ≠ i1 → c ≠ i2 → s.heap.get? c = some o → h'.get? c = some o) → Q (some (.ref s.heap.objs.size)) { s with heap := h' }) :
    wpAny (model prog w) A (pyNext (.ref z)) Q E s := by
  have hTy : s.TypeIs (.ref z) "zip" := ⟨_, hz, rfl⟩
  unfold pyNext
  refine wpAny_bind (wpAny_attempt (wpAny_callSpecial?_slot (name := Str.ofString "__next__") hTy F.slot_zip_next (wpAny_call_entry F.slot_zip_next hTy F.entry_zip_next ?_ (F.args_zip_next_1 _))))
  show wpAny _ _ (field (.ref z) 2 >>= _) _ _ _
  refine wpAny_bind (wpAny_field hz rfl (x := .bool false) rfl ?_)
  show wpAny _ _ (field (.ref z) 3 >>= _) _ _ _
  refine wpAny_bind (wpAny_field hz rfl (x := .ref TI) rfl (wpAny_bind (wpAny_seqItems hTI rfl ?_)))
  show wpAny _ _ (Builtin.SmallTypes.ownedTupleIsFree (.ref z) >>= _) _ _ _
  refine wpAny_bind (wpAny_tupleHeld_zip hz hT fun h₁ hz₁ b1 => ?_)
  simp only [Bool.false_eq_true, if_false]
  refine wpAny_bind ?_
  rw [← Array.forIn_toList]
  simp only [List.forIn_cons, List.forIn_nil]
  refine wpAny_bind (wpAny_bind (wpAny_holding ?_))
  show wpAny _ _ (Builtin.SmallTypes.nextOf (.ref i1) >>= _) _ _ _
  refine wpAny_bind (RZ.nextOf_tuple_item (s := { s with heap := h₁ }) (h1.at fun o q => b1.extBut _ _ D.i1z q) (hl1.at fun o q => b1.extBut _ _ D.l1z q) hx fun h₂ j1 b2 => wpAny_pure (wpAny_pure ?_))
  refine wpAny_bind (wpAny_bind (wpAny_holding ?_))
  show wpAny _ _ (Builtin.SmallTypes.nextOf (.ref i2) >>= _) _ _ _
  refine wpAny_bind (RZ.nextOf_tuple_item (s := { s with heap := h₂ }) (h2.at fun o q => b2.extBut _ _ D.i12.symm (b1.extBut _ _ D.i2z q)) (hl2.at fun o q => b2.extBut _ _ D.l2i1 (b1.extBut _ _ D.l2z q)) hy fun h₃ j2 b3 => wpAny_pure (wpAny_pure (wpAny_pure ?_)))
  show wpAny _ _ (newTuple [x, y] >>= _) _ _ _
  refine wpAny_bind (wpAny_newTuple (wpAny_pure ⟨_, rfl, wpAny_pure ?_⟩))
  have sz : h₃.objs.size = s.heap.objs.size := by rw [b3.1, b2.1, b1.1]
  have pr : IsPair (h₃.push { cls := .type "tuple", data := .seq #[x, y] }) h₃.objs.size x y := Heap.get?_push_size _ rfl
  have sz4 : (h₃.push { cls := .type "tuple", data := .seq #[x, y] }).objs.size = h₃.objs.size + 1 := Heap.size_push ..
  show Q (some (.ref h₃.objs.size)) _
  rw [sz] at pr sz4 ⊢
  exact hQ _ (Heap.get?_push_of_some _ (b3.extBut _ _ D.i2z.symm (b2.extBut _ _ D.i1z.symm hz₁))) (j1.at fun o q => Heap.get?_push_of_some _ (b3.extBut _ _ D.i12 q)) (j2.at fun o q => Heap.get?_push_of_some _ q) pr sz4
    fun c o c1 c2 c3 q => Heap.get?_push_of_some _ (b3.extBut _ _ c3 (b2.extBut _ _ c2 (b1.extBut _ _ c1 q)))
theorem zt_end {z TI TO T i1 i2 l1 l2 : Addr} {f : Bool} {oT : Obj} {k1 k2 : Nat} {xs ys : Array Value} {Q : Option Value → Shared → Prop} (hh : A.handled = none) (D : ZipApart z TI TO i1 i2 l1 l2)
    (hz : IsZipHeld s.heap z TI TO T f) (hT : s.heap.get? T = some oT) (hTI : IsPair s.heap TI (.ref i1) (.ref i2))
    (h1 : s.heap.IsTupleIter i1 l1 k1) (h2 : s.heap.IsTupleIter i2 l2 k2) (hl1 : s.heap.IsTuple l1 xs) (hl2 : s.heap.IsTuple l2 ys) (hend : xs[k1]? = none ∨ ys[k2]? = none)
    (hQ : ∀ h', (∀ c o, c ≠ z → c ≠ i1 → c ≠ i2 → s.heap.get? c = some o → h'.get? c = some o) → Q none { s with heap := h' }) : wpAny (model prog w) A (pyNext (.ref z)) Q E s := by
  have hTy : s.TypeIs (.ref z) "zip" := ⟨_, hz, rfl⟩
  unfold pyNext
  refine wpAny_bind (wpAny_attempt (wpAny_callSpecial?_slot (name := Str.ofString "__next__") hTy F.slot_zip_next (wpAny_call_entry F.slot_zip_next hTy F.entry_zip_next ?_ (F.args_zip_next_1 _))))
  have stop : ∀ (h' : Heap) (e : Addr), (∀ c o, c ≠ z → c ≠ i1 → c ≠ i2 → s.heap.get? c = some o → h'.get? c = some o) → (∃ o, h'.get? e = some o ∧ o.cls = .type "StopIteration") →
      wpAny (model prog w) A (isInstance (.ref e) (.type "StopIteration") >>= fun b => if b = true then pure none else throw (Value.ref e)) Q E { s with heap := h' } := fun h' e hk ⟨o, ho, hc⟩ =>
    wpAny_bind (wpAny_isInstance (T := "StopIteration") (b := true) ⟨o, ho, hc⟩ isSubtype_stop (wpAny_pure (hQ _ hk)))
  show wpAny _ _ (field (.ref z) 2 >>= _) _ _ _
  refine wpAny_bind (wpAny_field hz rfl (x := .bool false) rfl ?_)
  show wpAny _ _ (field (.ref z) 3 >>= _) _ _ _
  refine wpAny_bind (wpAny_field hz rfl (x := .ref TI) rfl (wpAny_bind (wpAny_seqItems hTI rfl ?_)))
  show wpAny _ _ (Builtin.SmallTypes.ownedTupleIsFree (.ref z) >>= _) _ _ _
  refine wpAny_bind (wpAny_tupleHeld_zip hz hT fun h₁ hz₁ b1 => ?_)
  simp only [Bool.false_eq_true, if_false]
  refine wpAny_bind ?_
  rw [← Array.forIn_toList]
  simp only [List.forIn_cons, List.forIn_nil]
  refine wpAny_bind (wpAny_bind (wpAny_holding ?_))
  show wpAny _ _ (Builtin.SmallTypes.nextOf (.ref i1) >>= _) _ _ _
  have g1 : h₁.IsTupleIter i1 l1 k1 := h1.at fun o q => b1.extBut _ _ D.i1z q
  have g2 : h₁.IsTuple l1 xs := hl1.at fun o q => b1.extBut _ _ D.l1z q
  cases hx : xs[k1]? with
  | none => exact wpAny_bind (RZ.nextOf_tuple_end (s := { s with heap := h₁ }) hh g1 g2 hx fun h₂ e b2 he => stop h₂ e (fun c o c1 c2 _ q => b2 _ _ c2 (b1.extBut _ _ c1 q)) he)
  | some x =>
    have hy : ys[k2]? = none := hend.resolve_left (by rw [hx]; exact fun q => nomatch q)
    refine wpAny_bind (RZ.nextOf_tuple_item (s := { s with heap := h₁ }) g1 g2 hx fun h₂ j1 b2 => wpAny_pure (wpAny_pure ?_))
    refine wpAny_bind (wpAny_bind (wpAny_holding ?_))
    show wpAny _ _ (Builtin.SmallTypes.nextOf (.ref i2) >>= _) _ _ _
    exact wpAny_bind (RZ.nextOf_tuple_end (s := { s with heap := h₂ }) hh (h2.at fun o q => b2.extBut _ _ D.i12.symm (b1.extBut _ _ D.i2z q)) (hl2.at fun o q => b2.extBut _ _ D.l2i1 (b1.extBut _ _ D.l2z q)) hy fun h₃ e b3 he =>
      stop h₃ e (fun c o c1 c2 c3 q => b3 _ _ c3 (b2.extBut _ _ c2 (b1.extBut _ _ c1 q))) he)
end
/-- zip(t, u) of two tuples as a maker of pairs -/
theorem zt_arg {prog : Program} {w : World} (z TI TO i1 i2 l1 l2 : Addr) (D : ZipApart z TI TO i1 i2 l1 l2) (xs ys : Array Value) :
    PairArg prog w "zip" z [z, TI, TO, i1, i2, l1, l2] [z, TO, i1, i2] (min xs.size ys.size) (fun i k v => xs[i]? = some k ∧ ys[i]? = some v)
      (fun h => IsZip h z TI TO .none ∧ IsPair h TI (.ref i1) (.ref i2) ∧ (∃ a b, IsPair h TO a b) ∧ h.IsTupleIter i1 l1 0 ∧ h.IsTupleIter i2 l2 0 ∧ h.IsTuple l1 xs ∧ h.IsTuple l2 ys) where
  type := fun s ok => ⟨_, ok.1, rfl⟩
  notDict := by decide
  keep := fun h h' ok hk => by
    obtain ⟨hz, hTI, ⟨a, b, hTO⟩, h1, h2, hl1, hl2⟩ := ok
    exact ⟨hk _ _ hz, hk _ _ hTI, ⟨a, b, hk _ _ hTO⟩, h1.at fun o e => hk _ o e, h2.at fun o e => hk _ o e, hl1.at fun o e => hk _ o e, hl2.at fun o e => hk _ o e⟩
  there := fun h ok b hb => by
    obtain ⟨hz, hTI, ⟨a, c, hTO⟩, ⟨o1, h1, _⟩, ⟨o2, h2, _⟩, ⟨o3, hl1, _⟩, ⟨o4, hl2, _⟩⟩ := ok
    simp only [List.mem_cons, List.not_mem_nil, or_false] at hb
    rcases hb with rfl | rfl | rfl | rfl | rfl | rfl | rfl
    all_goals first | exact ⟨_, hz⟩ | exact ⟨_, hTI⟩ | exact ⟨_, hTO⟩ | exact ⟨_, h1⟩ | exact ⟨_, h2⟩ | exact ⟨_, hl1⟩ | exact ⟨_, hl2⟩
  sub := fun b hb => by simp at hb ⊢; rcases hb with rfl | rfl | rfl | rfl <;> simp
  noKeys := fun A s Q E hA ok h => getAttrOr_miss_zip ok.1 rfl rfl rfl zip_no_keys (by decide +kernel) hA h
  iter := fun A s d Q E hA ok hd hdf h => by
    obtain ⟨hz, hTI, ⟨a, b, hTO⟩, h1, h2, hl1, hl2⟩ := ok
    simp only [List.mem_cons, List.not_mem_nil, or_false, not_or] at hdf
    obtain ⟨dz, dTI, dTO, di1, di2, dl1, dl2⟩ := hdf
    refine wpAny_pyIter_zip hz (h z [z, TO, i1, i2] (fun i h => IsPair h TI (.ref i1) (.ref i2) ∧ h.IsTupleIter i1 l1 i ∧ h.IsTupleIter i2 l2 i ∧ h.IsTuple l1 xs ∧ h.IsTuple l2 ys ∧
      ((IsZip h z TI TO .none ∧ ∃ a b, IsPair h TO a b) ∨ ∃ T f oT, IsZipHeld h z TI TO T f ∧ h.get? T = some oT ∧ T ≠ z ∧ T ≠ i1 ∧ T ≠ i2 ∧ T ≠ d)) s.heap s.toks ?_
      ⟨hTI, h1, h2, hl1, hl2, .inl ⟨hz, a, b, hTO⟩⟩ (fun _ _ e => e) fun b hb => .inl hb)
    exact {
      off := fun hm => by
        simp only [List.mem_cons, List.not_mem_nil, or_false] at hm
        rcases hm with e | e | e | e
        · exact dz e
        · exact dTO e
        · exact di1 e
        · exact di2 e
      frame := fun i h₁ h₂ st hk => by
        obtain ⟨hTI, h1, h2, hl1, hl2, hz⟩ := st
        refine ⟨hk _ _ (Ne.symm dTI) hTI, h1.at fun o e => hk _ o (Ne.symm di1) e, h2.at fun o e => hk _ o (Ne.symm di2) e, hl1.at fun o e => hk _ o (Ne.symm dl1) e, hl2.at fun o e => hk _ o (Ne.symm dl2) e, ?_⟩
        rcases hz with ⟨hz, a, b, hTO⟩ | ⟨T, f, oT, hz, hT, r1, r2, r3, r4⟩
        · exact .inl ⟨hk _ _ (Ne.symm dz) hz, a, b, hk _ _ (Ne.symm dTO) hTO⟩
        · exact .inr ⟨T, f, oT, hk _ _ (Ne.symm dz) hz, hk _ _ r4 hT, r1, r2, r3, r4⟩
      item := fun i s₁ Q₁ E₁ hi st hds hQ => by
        obtain ⟨hTI, h1, h2, hl1, hl2, hz⟩ := st
        have hix : i < xs.size := Nat.lt_of_lt_of_le hi (Nat.min_le_left ..)
        have hiy : i < ys.size := Nat.lt_of_lt_of_le hi (Nat.min_le_right ..)
        have ex := Array.getElem?_eq_getElem hix
        have ey := Array.getElem?_eq_getElem hiy
        have lt : ∀ {c o}, s₁.heap.get? c = some o → s₁.heap.objs.size ≠ c := fun e => Nat.ne_of_gt (Heap.lt_size e)
        have n1 : s₁.heap.objs.size ≠ i1 := let ⟨_, e, _⟩ := h1; lt e
        have n2 : s₁.heap.objs.size ≠ i2 := let ⟨_, e, _⟩ := h2; lt e
        rcases hz with ⟨hz, a, b, hTO⟩ | ⟨T, f, oT, hz, hT, r1, r2, r3, r4⟩
        · refine RZ.pyNext_zipT_item D hz hTI hTO h1 h2 hl1 hl2 ex ey fun h' a1 a2 a3 a4 a5 a6 hk => ?_
          exact hQ s₁.heap.objs.size _ _ h' s₁.toks ⟨ex, ey⟩ (.inl ⟨_, a5, rfl, _, rfl⟩)
            ⟨hk _ _ D.TIz D.TITO D.TIi1 D.TIi2 hTI, a3, a4, hl1.at fun o e => hk _ o D.l1z D.l1TO D.l1i1 D.l1i2 e, hl2.at fun o e => hk _ o D.l2z D.l2TO D.l2i1 D.l2i2 e,
              .inr ⟨s₁.heap.objs.size, false, _, a1, a5, lt hz, n1, n2, Nat.ne_of_gt hds⟩⟩
            fun c o hc e => hk c o (fun x => hc (by simp [x])) (fun x => hc (by simp [x])) (fun x => hc (by simp [x])) (fun x => hc (by simp [x])) e
        · refine zt_item D hz hT hTI h1 h2 hl1 hl2 ex ey fun h' a1 a3 a4 a5 a6 hk => ?_
          exact hQ s₁.heap.objs.size _ _ h' s₁.toks ⟨ex, ey⟩ (.inl ⟨_, a5, rfl, _, rfl⟩)
            ⟨hk _ _ D.TIz D.TIi1 D.TIi2 hTI, a3, a4, hl1.at fun o e => hk _ o D.l1z D.l1i1 D.l1i2 e, hl2.at fun o e => hk _ o D.l2z D.l2i1 D.l2i2 e,
              .inr ⟨T, true, oT, a1, hk _ _ r1 r2 r3 hT, r1, r2, r3, r4⟩⟩
            fun c o hc e => hk c o (fun x => hc (by simp [x])) (fun x => hc (by simp [x])) (fun x => hc (by simp [x])) e
      done := fun s₁ Q₁ E₁ st hQ => by
        obtain ⟨hTI, h1, h2, hl1, hl2, hz⟩ := st
        have hend : xs[min xs.size ys.size]? = none ∨ ys[min xs.size ys.size]? = none := by
          rcases Nat.le_total xs.size ys.size with h | h
          · exact .inl (Array.getElem?_eq_none (by rw [Nat.min_eq_left h]; exact Nat.le_refl _))
          · exact .inr (Array.getElem?_eq_none (by rw [Nat.min_eq_right h]; exact Nat.le_refl _))
        rcases hz with ⟨hz, a, b, hTO⟩ | ⟨T, f, oT, hz, hT, r1, r2, r3, r4⟩
        · exact RZ.pyNext_zipT_end hA D hz hTI hTO h1 h2 hl1 hl2 hend fun h' hk => hQ h' s₁.toks fun c o hc e => hk c o (fun x => hc (by simp [x])) (fun x => hc (by simp [x])) (fun x => hc (by simp [x])) (fun x => hc (by simp [x])) e
        · exact zt_end hA D hz hT hTI h1 h2 hl1 hl2 hend fun h' hk => hQ h' s₁.toks fun c o hc e => hk c o (fun x => hc (by simp [x])) (fun x => hc (by simp [x])) (fun x => hc (by simp [x])) e }
theorem kv_zip : ∀ {ks : List Str} {us : List Value} {ys : List V} {ws : List Value}, Vals (ks.map V.str) us → Vals ys ws →
    ∃ kvs : List (Key × Value), KV (kdOf ks ys) kvs ∧ kvs.length = min us.length ws.length ∧ ∀ (i : Nat) (key v : Value), us[i]? = some key → ws[i]? = some v → ∃ k, kvs[i]? = some (k, v) ∧ keyIs k key = true
  | [], _, _, _, .nil, _ => ⟨[], .nil, by simp, fun i key v h => by simp at h⟩
  | _ :: _, _, _, _, .cons _ _, .nil => ⟨[], .nil, by simp, fun i key v _ h => by simp at h⟩
  | k :: ks, _, _, _, .cons (b := u) (l₂ := us) a r, .cons (b := w) (l₂ := ws) b t => by
    obtain ⟨kvs, h1, h2, h3⟩ := kv_zip r t
    refine ⟨(Sum.inr k, w) :: kvs, .cons ⟨rfl, b⟩ h1, by simp [h2], fun i key v e1 e2 => ?_⟩
    cases i with
    | zero =>
      obtain ⟨t, e⟩ := (show ∃ t, u = Value.str k t from a)
      have z1 : u = key := by simpa using e1
      have z2 : w = v := by simpa using e2
      subst z1 z2 e
      exact ⟨Sum.inr k, rfl, keyIs_str k t⟩
    | succ i => exact h3 i key v (by simpa using e1) (by simpa using e2)
def tDZip (K : PySem.W.Frag) (ta : TA) : TE := fun σ H Q => ta σ H fun vs H1 => ∃ (a b : Addr) (ks : List Str) (ys : List V), vs = [.ref a, .ref b] ∧ SqT K H1 a (ks.map V.str) ∧ SqT K H1 b ys ∧
  ∀ p, H1 p = none → Q (.ref p) (upd H1 p (.dK (mergeK [] (kdOf ks ys))))
theorem pe_dictZip {X : Cx} {e e2 : Expr} {ta : TA} {p p' pos pos' : Pos} (hcalm : X.calm = true) (hg : Gl X "zip") (hm : X.mg "zip" = none) (hg' : Gl X "dict") (hm' : X.mg "dict" = none) (ha : PA X [e, e2] ta)
    (hs : starEach [e, e2] X.env = (false, eval e X.env) :: starEach [e2] X.env := by rfl) (hpl : (backTo pos (starEach [e2] X.env)).any (·.1) = false := by rfl)
    (hs' : starEach [.Call (.Name "zip" p) [e, e2] [] pos] X.env = [(false, eval (.Call (.Name "zip" p) [e, e2] [] pos) X.env)] := by rfl) :
    PE X (.Call (.Name "dict" p') [.Call (.Name "zip" p) [e, e2] [] pos] [] pos') (tDZip X.K ta) := by
  refine ⟨fun pins s σ H Q I h => ?_⟩
  refine wpAny_Call_Name_kw (ld_blt I hg' hm' (show bootBuiltins "dict" = some (.type "dict") by decide +kernel) ?_ (by decide) (by decide))
  refine PyProof.Rows.callWith_type1 ?_ (by rw [hs']; rfl) rfl
  rw [hs']
  refine Calls.spliced_cons ?_
  refine Call_ (ld_blt I hg hm PyProof.Rows.boot_zip (PyProof.Rows.callWith_type1 (thn (ha.run pos pins s σ H _ I h) fun us s1 ⟨vs, H1, I1, r1, q1⟩ => ?_) hs hpl))
  obtain ⟨a, b, ks, ys, ex, hqx, hqy, q⟩ := q1
  subst ex
  obtain ⟨u1, u2, rfl, ra, rb⟩ := vals2 r1
  cases ra
  cases rb
  obtain ⟨its, rv, p1, z1⟩ := I1.tuple hqx
  obtain ⟨its2, rv2, p2, z2⟩ := I1.tuple hqy
  obtain ⟨o1, ho1, _⟩ := id p1
  obtain ⟨o2, ho2, _⟩ := id p2
  refine RZ.call_zipT (show s1.heap.IsTuple a its.toArray from p1) (show s1.heap.IsTuple b its2.toArray from p2) fun h' hz hTI hTO h1 h2 hsz hk => Calls.spliced_nil ?_
  obtain ⟨kvs, rel, hl, hp⟩ := kv_zip rv rv2
  have hlen : min its.toArray.size its2.toArray.size ≤ sizeLine := Nat.le_trans (Nat.min_le_left _ _) (by have := rv.length; rw [List.size_toArray]; omega)
  refine call_dict_pairs (s := { s1 with heap := h' }) (knd := mixKind X.prog X.w) (kvs := kvs) (zt_arg (s1.heap.objs.size + 4) (s1.heap.objs.size + 2) (s1.heap.objs.size + 3) s1.heap.objs.size (s1.heap.objs.size + 1) a b
    (PySem.W.ktu_apart s1.heap.objs.size a b (Heap.lt_size ho1) (Heap.lt_size ho2)) its.toArray its2.toArray) (I1.ok.hd hcalm)
    ⟨hz, hTI, ⟨_, _, hTO⟩, h1, h2, Heap.IsTuple.at (show s1.heap.IsTuple a its.toArray from p1) fun o q => hk _ _ q, Heap.IsTuple.at (show s1.heap.IsTuple b its2.toArray from p2) fun o q => hk _ _ q⟩
    ⟨by simp [hl], fun i key v e => by
      obtain ⟨k, g1, g2⟩ := hp i key v (by simpa using e.1) (by simpa using e.2)
      exact ⟨k, g1, g2⟩⟩ hlen fun h2 tk dd keep => ?_
  have big : s1.heap.objs.size ≤ h'.objs.size := by rw [hsz]; exact Nat.le_add_right _ _
  have keep2 : ∀ b o, s1.heap.get? b = some o → h2.get? b = some o := fun b o q => keep b o (fun hm => by
    have := Heap.lt_size q
    simp only [List.mem_cons, List.not_mem_nil, or_false] at hm
    rcases hm with e | e | e | e <;> rw [e] at this <;> first | exact Nat.lt_irrefl _ this | exact absurd this (Nat.not_lt.mpr (Nat.le_add_right _ _))) (hk b o q)
  have hlen2 : (mergeK [] (kdOf ks ys)).length ≤ sizeLine := by
    refine Nat.le_trans (length_mergeK _ []) ?_
    rw [List.length_nil, Nat.zero_add, rel.length, hl]
    simpa using hlen
  have hbig : (h'.objs.size == sysModules) = false := beq_eq_false_iff_ne.mpr (Nat.ne_of_gt (Nat.lt_of_lt_of_le I1.big big))
  exact ⟨.ref h'.objs.size, upd H1 h'.objs.size (.dK (mergeK [] (kdOf ks ys))), I1.laid (t' := tk) keep2 big (show ObjOk X.prog X.w _ _ _ (.dK (mergeK [] (kdOf ks ys))) from ⟨hlen2, hbig, merged [] kvs, KV.merge rel .nil, dd⟩), rfl, q _ (I1.hok.fresh big)⟩
end Tq

/-! ### Tq: the kinds of nodes and a made node, program-free -/
namespace Tq
open PySem L2 PySem.Spec PyProof.Rows
theorem castPG {X : Cx} {K : PySem.W.Frag} {tg : PySem.Expr} {r : PySem.W.Frag → TG} (i : PG X tg (r X.K)) (h : X.K = K := by rfl) : PG X tg (r K) := h ▸ i
def rTupOf (K : PySem.W.Frag) : List V → Hp → VK → Prop := fun xs H Q => ∃ p ys, xs = [.ref p] ∧ ((SqL K H p ys ∧ ∀ l, H l = none → Q (.ref l) (upd H l (.tup ys))) ∨ (SqT K H p ys ∧ Q (.ref p) H))
/-- what a raising def lets out, where it lets out nothing -/
theorem passF {P : Program} {w : World} {X : Cx} : Passes (L2.CX P w) X E0 := fun _ _ _ _ _ _ _ h => by
  obtain ⟨_, _, _, _, _, _, _, _, _, _, _, _, h⟩ := h
  exact h.elim
/-- the tables of kinds -/
structure Tb where
  st : List (Str × List Str)
  ex : List (Str × List Str)
  pa : List (Str × List Str)
  pr : List (Str × List Str)
  pl : List (Str × List Str)
  gr : List (Str × List Str)
def Tb.rows (t : Tb) (z : Str) : Option (List Str) :=
  match t.st.lookup z with
  | some r => some r
  | none => match t.ex.lookup z with
    | some r => some r
    | none => match t.pa.lookup z with
      | some r => some r
      | none => match t.pr.lookup z with
        | some r => some r
        | none => match t.pl.lookup z with
          | some r => some r
          | none => if (t.gr.any fun g => g.2.contains z) = true then some [] else none
/-- a row's name and what it holds -/
def rowN (r : Str) : Str := (Txt.split r " ").headD ""
def rowW (r : Str) : Str := (Txt.split r " ").getD 1 ""
def isMany (h : Str) : Bool := match atI h.cps.toList (-1) with
  | some c => !(Builtin.Str.occurrences "*+" ⟨#[c]⟩ 0 ("*+" : Str).length 1).isEmpty
  | none => false
structure RowOk (r : Str) : Prop where
  two : Txt.split r " " = [rowN r, rowW r]
  len : r.length + 2 ≤ sizeLine
  last : (atI (rowW r).cps.toList (-1)).isSome = true
  wlen : (rowW r).length ≤ sizeLine
abbrev places : List Str := ["lineno", "col_offset", "end_lineno", "end_col_offset"]
structure TbOk (t : Tb) : Prop where
  row : ∀ z rows, t.rows z = some rows → (∀ r ∈ rows, RowOk r) ∧ (rows.map rowN).Nodup ∧ (∀ r ∈ rows, rowN r ∉ places) ∧ rows.length ≤ 1000
  load : t.rows "Load" = some []
  gnd : (t.gr.map (·.1)).Nodup
  glen : t.gr.length ≤ 1000
/-- the tables in the written part -/
structure Kd (K : PySem.W.Frag) (w : World) (mg : Str → Option Value) (t : Tb) (d1 d2 d3 d4 d5 d6 d7 : Addr) : Prop where
  m_STATEMENTS : mg "STATEMENTS" = some (.ref d1)
  m_EXPRESSIONS : mg "EXPRESSIONS" = some (.ref d2)
  m_PATTERNS : mg "PATTERNS" = some (.ref d3)
  m_PARTS : mg "PARTS" = some (.ref d4)
  m_PLACELESS : mg "PLACELESS" = some (.ref d5)
  m_GROUPS : mg "GROUPS" = some (.ref d6)
  m_PLACE : mg "PLACE" = some (.ref d7)
  t1 : STab K w d1 t.st
  t2 : STab K w d2 t.ex
  t3 : STab K w d3 t.pa
  t4 : STab K w d4 t.pr
  t5 : STab K w d5 t.pl
  t6 : STab K w d6 t.gr
  t7 : KTx K d7 places
  ok : TbOk t
/-- table_of -/
def spTable (K : PySem.W.Frag) (t : Tb) : Sp := fun vs H Q _ => ∃ v, vs = [v] ∧
  ((∃ z, v = .str z ∧ (∀ rows, t.rows z = some rows → ∀ a H', Same H H' → SqT K H' a (rows.map V.str) → Q (.ref a) H') ∧ (t.rows z = none → ∀ H', Same H H' → Q .non H')) ∨
   (∃ ty, TyX K H v ty ∧ PySem.W.kitOne K ty (.type "str") = some false ∧ Q .non H))
def Flds (H : Hp) (qs : List V) (rows : List Str) : Prop := Paired (fun q r => ∃ b, q = .ref b ∧ H b = some (.tup [.str (rowN r), .str (rowW r)])) qs rows
theorem Flds.same {H H' : Hp} (e : Same H H') : ∀ {qs : List V} {rows : List Str}, Flds H qs rows → Flds H' qs rows
  | _, _, .nil => .nil
  | _, _, .cons ⟨b, e1, e2⟩ r => .cons ⟨b, e1, e b _ e2⟩ (Flds.same e r)
theorem Flds.but {H H' : Hp} (e : ∀ b xs, H b = some (.tup xs) → H' b = some (.tup xs)) : ∀ {qs : List V} {rows : List Str}, Flds H qs rows → Flds H' qs rows
  | _, _, .nil => .nil
  | _, _, .cons ⟨b, e1, e2⟩ r => .cons ⟨b, e1, e b _ e2⟩ (Flds.but e r)
theorem Flds.get {H : Hp} : ∀ {qs : List V} {rows : List Str} {i : Nat} {x : V}, Flds H qs rows → qs[i]? = some x → ∃ r b, rows[i]? = some r ∧ x = .ref b ∧ H b = some (.tup [.str (rowN r), .str (rowW r)])
  | _, _, i, x, .nil, h => by simp at h
  | _, _, 0, x, .cons ⟨b, e1, e2⟩ r, h => by
    exact ⟨_, b, rfl, (Option.some.inj h).symm.trans e1, e2⟩
  | _, _, i + 1, x, .cons _ r, h => by
    obtain ⟨r', b, g1, g2, g3⟩ := Flds.get (i := i) r (by simpa using h)
    exact ⟨r', b, by simpa using g1, g2, g3⟩
theorem Flds.snoc {H : Hp} {q : V} {r : Str} (h : ∃ b, q = .ref b ∧ H b = some (.tup [.str (rowN r), .str (rowW r)])) : ∀ {qs : List V} {rows : List Str}, Flds H qs rows → Flds H (qs ++ [q]) (rows ++ [r])
  | _, _, .nil => .cons h .nil
  | _, _, .cons h' t => .cons h' (Flds.snoc h t)
theorem same_none {H H' : Hp} {b : Addr} (e : Same H H') (h : H' b = none) : H b = none := by
  cases z : H b with
  | none => rfl
  | some o => rw [e b o z] at h; cases h
/-- split_fields -/
def spSplit (t : Tb) : Sp := fun vs H Q _ => ∃ z rows, vs = [.str z] ∧ t.rows z = some rows ∧ ∀ p qs H', Same H H' → H p = none → H' p = some (.lst qs) → Flds H' qs rows → Q (.ref p) H'
/-- fields_of, of a kind -/
def spFields (t : Tb) : Sp := fun vs H Q _ => ∃ z rows, vs = [.str z] ∧ t.rows z = some rows ∧ ∀ p H', Same H H' → H p = none → H' p = some (.tup (rows.map fun r => V.str (rowN r))) → Q (.ref p) H'
/-- the attributes of a node -/
abbrev ndF (kind : V) (h : Addr) (a b c d : V) : List (Str × V) := [("kind", kind), ("held", .ref h), ("lineno", a), ("col_offset", b), ("end_lineno", c), ("end_col_offset", d)]
/-- what stands in a field at first -/
def StV (C : Addr) (H : Hp) (n h : Str) (v : V) (fp : List Addr) : Prop :=
  (isMany h = true ∧ ∃ l, v = .ref l ∧ fp = [l] ∧ H l = some (.lst [])) ∨
  (isMany h = false ∧ n = "ctx" ∧ ∃ x dx hh, v = .ref x ∧ fp = [x, dx, hh] ∧ fp.Nodup ∧ H dx = some (.own x) ∧ H x = some (.ins C dx (ndF (.str "Load") hh .non .non .non .non)) ∧ H hh = some (.dK [])) ∨
  (isMany h = false ∧ n ≠ "ctx" ∧ v = .non ∧ fp = [])
theorem StV.same {C : Addr} {H H' : Hp} {n h : Str} {v : V} {fp : List Addr} (e : ∀ a o, a ∈ fp → H a = some o → H' a = some o) (s : StV C H n h v fp) : StV C H' n h v fp := by
  rcases s with ⟨m, l, e1, e2, e3⟩ | ⟨m, hn, x, dx, hh, e1, e2, e3, e4, e5, e6⟩ | ⟨m, hn, e1, e2⟩
  · exact .inl ⟨m, l, e1, e2, e l _ (by rw [e2]; exact .head _) e3⟩
  · exact .inr (.inl ⟨m, hn, x, dx, hh, e1, e2, e3, e dx _ (by rw [e2]; simp) e4, e x _ (by rw [e2]; simp) e5, e hh _ (by rw [e2]; simp) e6⟩)
  · exact .inr (.inr ⟨m, hn, e1, e2⟩)
theorem StV.dom {C : Addr} {H : Hp} {n h : Str} {v : V} {fp : List Addr} (s : StV C H n h v fp) {a : Addr} (ha : a ∈ fp) : H a ≠ none := by
  rcases s with ⟨m, l, e1, e2, e3⟩ | ⟨m, hn, x, dx, hh, e1, e2, e3, e4, e5, e6⟩ | ⟨m, hn, e1, e2⟩
  · rw [e2, List.mem_singleton] at ha
    rw [ha, e3]
    exact fun z => nomatch z
  · rw [e2] at ha
    simp only [List.mem_cons, List.not_mem_nil, or_false] at ha
    rcases ha with e | e | e
    · rw [e, e5]; exact fun z => nomatch z
    · rw [e, e4]; exact fun z => nomatch z
    · rw [e, e6]; exact fun z => nomatch z
  · rw [e2] at ha
    exact nomatch ha
theorem StV.nodup {C : Addr} {H : Hp} {n h : Str} {v : V} {fp : List Addr} (s : StV C H n h v fp) : fp.Nodup := by
  rcases s with ⟨m, l, e1, e2, e3⟩ | ⟨m, hn, x, dx, hh, e1, e2, e3, e4, e5, e6⟩ | ⟨m, hn, e1, e2⟩
  · rw [e2]; simp
  · exact e3
  · rw [e2]; exact List.nodup_nil
/-- start_value; b: the promise that holds -/
def spStart (C : Addr) (b : Bool) : Sp := fun vs H Q _ => b = true ∧ ∃ n h, vs = [.str n, .str h] ∧ (atI h.cps.toList (-1)).isSome = true ∧ h.length ≤ sizeLine ∧
  ∀ v fp H', Same H H' → StV C H' n h v fp → (∀ a ∈ fp, H a = none) → Q v H'
/-- a field of a made node: given, or as at first -/
def Ent (C : Addr) (H : Hp) (given : List (Key × V)) (r : Str) (kv : Key × V) (fp : List Addr) : Prop := kv.1 = Sum.inr (rowN r) ∧
  ((valV given (Sum.inr (rowN r)) = some kv.2 ∧ fp = []) ∨ (valV given (Sum.inr (rowN r)) = none ∧ StV C H (rowN r) (rowW r) kv.2 fp))
inductive Ents (C : Addr) (H : Hp) (given : List (Key × V)) : List Str → List (Key × V) → List (List Addr) → Prop where
  | nil : Ents C H given [] [] []
  | cons {r : Str} {kv : Key × V} {fp : List Addr} {rs : List Str} {kvs : List (Key × V)} {fps : List (List Addr)} (h : Ent C H given r kv fp) (t : Ents C H given rs kvs fps) : Ents C H given (r :: rs) (kv :: kvs) (fp :: fps)
theorem Ents.same {C : Addr} {H H' : Hp} {given : List (Key × V)} : ∀ {rs : List Str} {kvs : List (Key × V)} {fps : List (List Addr)}, Ents C H given rs kvs fps → (∀ a o, a ∈ fps.flatten → H a = some o → H' a = some o) → Ents C H' given rs kvs fps
  | _, _, _, .nil, _ => .nil
  | _, _, _, .cons (fp := fp) h t, e => by
    refine .cons ⟨h.1, ?_⟩ (Ents.same t fun a o hm => e a o (by rw [List.flatten_cons]; exact List.mem_append_right _ hm))
    rcases h.2 with q | ⟨q1, q2⟩
    · exact .inl q
    · exact .inr ⟨q1, q2.same fun a o hm => e a o (by rw [List.flatten_cons]; exact List.mem_append_left _ hm)⟩
theorem Ents.dom {C : Addr} {H : Hp} {given : List (Key × V)} : ∀ {rs : List Str} {kvs : List (Key × V)} {fps : List (List Addr)}, Ents C H given rs kvs fps → ∀ {a : Addr}, a ∈ fps.flatten → H a ≠ none
  | _, _, _, .nil, _, ha => nomatch ha
  | _, _, _, .cons h t, a, ha => by
    rw [List.flatten_cons] at ha
    rcases List.mem_append.mp ha with ha | ha
    · rcases h.2 with ⟨_, q⟩ | ⟨_, q⟩
      · rw [q] at ha; exact nomatch ha
      · exact q.dom ha
    · exact Ents.dom t ha
theorem Ents.snoc {C : Addr} {H : Hp} {given : List (Key × V)} {r : Str} {kv : Key × V} {fp : List Addr} (h : Ent C H given r kv fp) : ∀ {rs : List Str} {kvs : List (Key × V)} {fps : List (List Addr)}, Ents C H given rs kvs fps → Ents C H given (rs ++ [r]) (kvs ++ [kv]) (fps ++ [fp])
  | _, _, _, .nil => .cons h .nil
  | _, _, _, .cons h' t => .cons h' (Ents.snoc h t)
theorem Ents.keys {C : Addr} {H : Hp} {given : List (Key × V)} : ∀ {rs : List Str} {kvs : List (Key × V)} {fps : List (List Addr)}, Ents C H given rs kvs fps → kvs.map (·.1) = rs.map fun r => Sum.inr (rowN r)
  | _, _, _, .nil => rfl
  | _, _, _, .cons h t => by rw [List.map_cons, List.map_cons, h.1, Ents.keys t]
/-- the heap behind __init__ of the node x -/
structure Made (C : Addr) (H H' : Hp) (x dx : Addr) (z : Str) (given : List (Key × V)) (rows : List Str) (hh : Addr) (hd : List (Key × V)) (fps : List (List Addr)) : Prop where
  keep : ∀ b o, H b = some o → b ≠ x → H' b = some o
  new : H hh = none
  held : H' hh = some (.dK hd)
  node : H' x = some (.ins C dx (ndF (.str z) hh ((valV given (Sum.inr "lineno")).getD .non) ((valV given (Sum.inr "col_offset")).getD .non) ((valV given (Sum.inr "end_lineno")).getD .non) ((valV given (Sum.inr "end_col_offset")).getD .non)))
  ents : Ents C H' given rows hd fps
  nd : fps.flatten.Nodup
  fresh : ∀ a ∈ fps.flatten, H a = none ∧ a ≠ hh
/-- Node.__init__ that raises nothing; b: a kind with fields too -/
def spInit (t : Tb) (C : Addr) (b : Bool) : Sp := fun vs H Q _ => ∃ (x dx p d : Addr) (z : Str) (rows : List Str) (rest : List V) (kd : List (Key × V)), vs = [.ref x, .str z, .ref p, .ref d] ∧
  H x = some (.ins C dx []) ∧ H p = some (.tup rest) ∧ H d = some (.dK kd) ∧ t.rows z = some rows ∧ (b = false → rows = []) ∧ rest.length ≤ rows.length ∧ kd.length ≤ 1000 ∧ (kd.map (·.1)).Nodup ∧
  (∀ k ∈ kd.map (·.1), ∃ n, k = Sum.inr n ∧ n ∈ rows.map rowN ++ places ∧ n ∉ (rows.map rowN).take rest.length) ∧
  ∀ hh hd fps H', Made C H H' x dx z (kdOf (rows.map rowN) rest ++ kd) rows hh hd fps → Q .non H'
/-- the class Node -/
structure NdC (K : PySem.W.Frag) (C : Addr) : Prop where
  cls : Cls K C
  no : ∀ f ∈ (["kind", "held", "lineno", "col_offset", "end_lineno", "end_col_offset"] : List Str), NoAttr K C f
theorem look_at : ∀ {l : List (Str × List Str)} {i : Nat} {k : Str}, (l.map (·.1)).Nodup → (l.map (·.1))[i]? = some k → ∃ rows, l[i]? = some (k, rows) ∧ l.lookup k = some rows
  | [], _, _, _, h => by simp at h
  | (k', r) :: l, 0, k, _, h => by
    have e : k' = k := by simpa using h
    subst e
    exact ⟨r, rfl, by simp [List.lookup]⟩
  | (k', r) :: l, i + 1, k, hn, h => by
    obtain ⟨n1, n2⟩ := List.nodup_cons.mp (show (k' :: l.map (·.1)).Nodup from hn)
    have h' : (l.map (·.1))[i]? = some k := by simpa using h
    obtain ⟨rows, e1, e2⟩ := look_at n2 h'
    refine ⟨rows, by simpa using e1, ?_⟩
    have : (k == k') = false := beq_eq_false_iff_ne.mpr fun e => n1 (by subst e; exact List.mem_of_getElem? h')
    simp [List.lookup, this, e2]
def rIxTab (K : PySem.W.Frag) (d : Addr) (tb : List (Str × List Str)) : R2 := fun x y H Q => ∃ z rows, x = .ref d ∧ y = .str z ∧ tb.lookup z = some rows ∧ ∀ a, KTx K a rows → Q (.ref a) H
theorem ix_tabR {X : Cx} {d : Addr} {tb : List (Str × List Str)} (T : STab X.K X.w d tb) : IxR X (rIxTab X.K d tb) := ix_tab T
theorem inV_strs (z : Str) : ∀ rows : List Str, inV (.str z) (rows.map V.str) = rows.contains z := by
  intro rows
  unfold inV
  induction rows with
  | nil => rfl
  | cons r rs ih =>
    rw [List.map_cons, List.any_cons, ih, List.contains_cons]
    congr 1
    show (decide (r = z)) = (z == r)
    by_cases h : r = z
    · subst h; simp
    · rw [decide_eq_false h]; exact (beq_eq_false_iff_ne.mpr (fun e => h e.symm)).symm
theorem flat_strs (rows : List Str) : (rows.map V.str).all flatV = true := by
  rw [List.all_eq_true]
  intro x hx
  obtain ⟨r, _, rfl⟩ := List.mem_map.mp hx
  rfl
end Tq
namespace Tq
open PySem L2 PySem.Spec PyProof.Rows
theorem okKw0 {P : Program} {w : World} {K : PySem.W.Frag} {mg : Str → Option Value} {base : Heap} {k : Nat} {f : Addr} {x qual : Str} {st : Stmt} {fd : FuncData} {N : List Str} {sp : Sp} {a1 a2 va ka : Arg}
    (F : Fun K x qual st f fd) (hp : defArgs st = ⟨[], [a1, a2], some va, [], [], some ka, []⟩) (S : FnScope N [a1.arg, a2.arg, va.arg, ka.arg] (defScope st)) (hne : (a2.arg == a1.arg) = false)
    (body : ∀ (cdv : Value) (A : Around) (outer : List Env) (s : Shared) (H : Hp) (vs : List V) (Q : VK) (E : XK),
      Quiet (A.deeper (envOfC qual (defScope st) s.heap.objs.size f cdv)) → Room k (A.deeper (envOfC qual (defScope st) s.heap.objs.size f cdv)) → sp vs H Q E →
      ∃ t, PSs (cxOf CX0 P w K mg base N qual (defScope st) f cdv A outer s H E).nox (defBody st) t ∧
        t { nx := fun _ H' => Q .non H', rt := Q } (start N vs) H) : FnKw P w K mg base CX0 (k + 1) f [a1.arg, a2.arg] sp :=
  okKw F hp S (fun _ _ _ _ _ _ _ _ _ _ _ h => h) hne fun cdv A outer s H vs Q E hq hr h => by
    obtain ⟨t, ht, hq2⟩ := body cdv A outer s H vs Q E hq hr h
    exact ⟨t, ht.nox, hq2⟩
end Tq
namespace Tq
open PySem L2 PySem.Spec PyProof.Rows
theorem valV_none {kvs : List (Key × V)} {k : Key} (h : k ∉ kvs.map (·.1)) : valV kvs k = none := by
  cases e : valV kvs k with
  | none => rfl
  | some v => exact absurd (valV_in e) h
theorem valV_at : ∀ {kvs : List (Key × V)} {i : Nat} {k : Key} {v : V}, (kvs.map (·.1)).Nodup → kvs[i]? = some (k, v) → valV kvs k = some v
  | [], _, _, _, _, h => by simp at h
  | p :: r, 0, k, v, _, h => by
    have e : p = (k, v) := by simpa using h
    subst e
    exact valV_pos rfl
  | p :: r, i + 1, k, v, hn, h => by
    obtain ⟨n1, n2⟩ := List.nodup_cons.mp (show (p.1 :: r.map (·.1)).Nodup from hn)
    have h' : r[i]? = some (k, v) := by simpa using h
    rw [valV_neg (fun e => n1 (by rw [e]; exact List.mem_map.mpr ⟨_, List.mem_of_getElem? h', rfl⟩))]
    exact valV_at n2 h'
theorem putK_new {kvs : List (Key × V)} {k : Key} {v : V} (h : k ∉ kvs.map (·.1)) : putK kvs k v = kvs ++ [(k, v)] := by
  unfold putK
  rw [valV_any, valV_none h]
  rfl
theorem mergeK_new : ∀ {more acc : List (Key × V)}, ((acc ++ more).map (·.1)).Nodup → mergeK acc more = acc ++ more
  | [], acc, _ => by simp [mergeK]
  | p :: r, acc, h => by
    show mergeK (putK acc p.1 p.2) r = _
    have e : acc ++ p :: r = (acc ++ [p]) ++ r := by simp
    rw [e] at h
    have hn : p.1 ∉ acc.map (·.1) := fun hm => by
      rw [List.append_assoc, List.map_append, List.nodup_append] at h
      exact h.2.2 _ hm p.1 (by simp) rfl
    rw [putK_new hn, e]
    exact mergeK_new h
theorem kdOf_keys : ∀ {ks : List Str} {zs : List V}, zs.length ≤ ks.length → (kdOf ks zs).map (·.1) = (ks.take zs.length).map Sum.inr
  | [], [], _ => rfl
  | [], _ :: _, h => absurd h (by simp)
  | _ :: _, [], _ => rfl
  | k :: ks, z :: zs, h => by
    show Sum.inr k :: (kdOf ks zs).map (·.1) = Sum.inr k :: (ks.take zs.length).map Sum.inr
    rw [kdOf_keys (by simpa using h)]
end Tq
namespace Tq
open PySem L2 PySem.Spec PyProof.Rows
theorem catA_to {K : PySem.W.Frag} {H : Hp} {a b : Addr} {xs ys : List V} {Q : VK} (ha : SqT K H a xs) (hb : SqT K H b ys) (hz : xs.length + ys.length ≤ sizeLine)
    (h : ∀ q H', Same H H' → SqT K H' q (xs ++ ys) → Q (.ref q) H') : rCatA K (.ref a) (.ref b) H Q := by
  refine ⟨a, b, xs, ys, rfl, rfl, ha, hb, hz, fun e => ?_, fun _ e => ?_, fun _ _ p hp => h p _ (same_new hp) (.inl (.inl upd_same))⟩
  · subst e
    exact h b H (Same.refl H) hb
  · subst e
    exact h a H (Same.refl H) (by rw [List.append_nil]; exact ha)
end Tq

/-! ### Tq: several clauses `except X as n`; raise X() -/
namespace Tq
open PySem L2 PySem.Spec PyProof.Rows
/-- what the clauses wish of an exception of the body; the slot of the name, the class, the suite -/
def wManyAs (K : PySem.W.Frag) (Wout : WX) (D : Ends) : List (Nat × Value × (Addr → Value → Option Addr → TS)) → WX
  | [] => Wout
  | (i, c, ts) :: r => fun cls d σ H => ∃ b, PySem.W.exmOne K cls c = some b ∧
      (b = true → ∀ a, H a = none → ts a cls d { nx := fun σ' H' => D.nx (σ'.set i none) H', rt := D.rt, bk := fun σ' H' => D.bk (σ'.set i none) H', ct := fun σ' H' => D.ct (σ'.set i none) H' } (σ.set i (some (.ref a))) H) ∧
      (b = false → wManyAs K Wout D r cls d σ H)
inductive HdsAs (X : Cx) : List ExceptHandler → List (Nat × Value × (Addr → Value → Option Addr → TS)) → Prop
  | nil : HdsAs X [] []
  | cons {x n : Str} {i : Nat} {c : Value} {ts : Addr → Value → Option Addr → TS} {b₀ : Stmt} {suite : List Stmt} {np pos' : Pos} {hds : List ExceptHandler} {l : List (Nat × Value × (Addr → Value → Option Addr → TS))}
      (hi : X.N[i]? = some n) (hln : X.env.kindOf n = some .local) (hc : Names X x c)
      (hsu : ∀ (a : Addr) (oe : Obj) (cls : Value) (d : Option Addr) (pn : List (Addr × Obj)), Zc cls d oe → (∃ vs, oe.data = .fields vs) → PSs (X.suite a ((a, oe) :: pn)) (b₀ :: suite) (ts a cls d)) (r : HdsAs X hds l) :
      HdsAs X (.ExceptHandler (some (.Name x np)) (some n) (b₀ :: suite) pos' :: hds) ((i, c, ts) :: l)
section
variable {X : Cx} {body : List Stmt} {h₀ : ExceptHandler} {hds : List ExceptHandler} {l : List (Nat × Value × (Addr → Value → Option Addr → TS))} {pos : Pos} {tb : WX → TS} {Wout : WX}
theorem ps_try_manyAs (hs : X.stack = X.env :: X.outer) (hf : X.env.frame = some X.env.locals) (hN : X.N.Nodup) (tk : Takes X Wout)
    (hb : ∀ (W : WX) (pn : List (Addr × Obj)) (xe : Value → Shared → Prop), Takes (X.tr pn xe) W → PassesOwn (model X.prog X.w) X.A X.env xe → PSs (X.tr pn xe) body (tb W))
    (hh : HdsAs X (h₀ :: hds) l) : PS X (.Try body (h₀ :: hds) [] [] pos) (fun D σ H => tb (wManyAs X.K Wout D l) D σ H) := by
  refine ⟨fun pins s σ H D I h => ?_⟩
  have ok := I.ok
  have hfr : X.A.frames = some (X.env :: X.outer) := by rw [ok.frames, hs]
  refine wpAny_Try_except ?_
  refine wpAny_mono ((hb (wManyAs X.K Wout D l) (X.pn ++ pins) (fun e s₁ => wpAny (model X.prog X.w) X.A (noteFrame e X.env) (fun _ s₂ => wpAny (model X.prog X.w) X.A (setFlight e none) (fun _ s₃ =>
    wpAny (model X.prog X.w) X.A (handleBy e X.env (h₀ :: hds)) (SP X pins D) X.xe s₃) X.xe s₂) X.xe s₁) (fun u s' xx => ?_) PassesOwn.looking).run [] s σ H D (I.toTry _) h) (fun f s1 hsp => ?_) (fun e s1 he => he)
  · obtain ⟨a, B, sI, pins', σ', H', cls, d, rfl, J', nb, up, sky, na, os, ag, w⟩ := xx
    have J : Inv X pins σ' H' sI := J'.ofTry ok
    have sky' : Sky B (X.env :: X.outer) a (Zc cls d) X.env.locals s'.heap := by rw [← hs]; exact sky
    show wpAny (model X.prog X.w) X.A (noteFrame (.ref a) X.env) _ _ _
    refine Sky.land Zc.steady hfr hf sky' fun h3 fl3 up3 => ?_
    have J3 : Inv X pins σ' H' { s' with heap := h3 } := J.landed nb fl3.1 (up.trans up3) os ag
    obtain ⟨oe3, vs3, he3, hz3, hd3⟩ := fl3.there
    have nfr : a ∉ frs (X.env :: X.outer) := fun hm => by
      obtain ⟨_, o', e', hnf⟩ := fl3.2.2.1.mem hm
      rw [he3] at e'
      cases e'
      exact hnf _ hd3
    have nL : a ≠ X.env.locals := fun z => nfr (List.mem_filterMap.mpr ⟨X.env, List.mem_cons_self, by rw [hf, z]⟩)
    have nF : a ∉ X.fs := fun hm => by
      obtain ⟨e, he, q⟩ := List.mem_filterMap.mp hm
      exact nfr (List.mem_filterMap.mpr ⟨e, List.mem_cons_of_mem _ he, q⟩)
    have S3 := J3.suite he3 hd3 na nL nF
    have go : ∀ {hds' : List ExceptHandler} {l' : List (Nat × Value × (Addr → Value → Option Addr → TS))}, HdsAs X hds' l' → wManyAs X.K Wout D l' cls d σ' H' →
        wpAny (model X.prog X.w) X.A (handleBy (.ref a) X.env hds') (SP X pins D) X.xe { s' with heap := h3 } := by
      intro hds' l' hk
      induction hk with
      | nil =>
        intro w
        refine wpAny_handleBy_nil ?_
        obtain ⟨k1, k2, k3, oe, vs, T, oT, ts', he, hz, hd, h1, hr⟩ := id fl3
        unfold PySem.passOn
        refine wpAny_bind (wpAny_field he hd h1 ?_)
        rw [if_neg (show ¬ ((Value.ref T == Value.none) = true) from by simp)]
        have fin : wpAny (model X.prog X.w) X.A (setFlight (.ref a) X.env.frame) (fun _ s4 => wpAny (model X.prog X.w) X.A (throw (.ref a) : Sem Flow) (SP X pins D) X.xe s4) X.xe { s' with heap := h3 } := by
          rw [hf]
          refine HandSPX.setFlight_upZ fl3 fun h4 hh4 up4 => wpAny_throw (tk _ _ ?_)
          exact ⟨a, B, sI, pins, σ', H', cls, d, rfl, J, nb, (up.trans up3).trans up4, .inr (.inr (by rw [hs]; exact hh4)), na, os, ag, w⟩
        first
          | exact wpAny_bind (wpAny_pure (wpAny_bind fin))
          | exact wpAny_bind fin
      | @cons x n i c ts b₀ suite np pos' hds2 l2 hi hln hc hsu r ih =>
        intro w
        obtain ⟨b, hb1, hyes, hno⟩ := w
        have hloc : Loc X.env.scope n := .inl hln
        refine wpAny_handleBy_cons (codeAny_handlers_test ?_) (by intro q; cases q)
        have LT : PySem.W.Looks (model X.prog X.w) h3 (typeOf (.ref a)) cls := fun A Q E s k q => wpAny_typeOf_ref (k _ _ he3) (by rw [hz3.1]; exact q)
        have LM := PySem.W.exm_one (M := model X.prog X.w) (J3.kIn) LT hb1
        have test : ∀ {Q : Value → Shared → Prop} {E : Value → Shared → Prop}, Q c { s' with heap := h3 } → wpAny (model X.prog X.w) (X.A.mark (some (.ref a))) (eval (.Name x np) X.env) Q E { s' with heap := h3 } := fun {Q E} q => by
          obtain ⟨hg, hdbg, hm | ⟨hm, hv, hnn⟩⟩ := hc
          · exact ld_glob (X := X.suite a ((a, oe3) :: (X.pn ++ pins))) S3 hg hm q hdbg
          · exact ld_blt (X := X.suite a ((a, oe3) :: (X.pn ++ pins))) S3 hg hm hv q hnn hdbg
        refine test (LM.here ?_)
        cases b with
        | true =>
          refine codeAny_handlers_suite_as ?_
          refine HandSPX.lands_againZ fl3 fun h4 fl4 up4 => ?_
          have J4 : Inv X pins σ' H' { s' with heap := h4 } := J.landed nb fl4.1 ((up.trans up3).trans up4) os ag
          obtain ⟨oe4, vs4, he4, hz4, hd4⟩ := fl4.there
          have S4 := J4.suite he4 hd4 na nL nF
          refine store_ok (X := X.suite a ((a, oe4) :: (X.pn ++ pins))) (v := .ref a) S4 hN hi hloc rfl (fun s5 S5 => ?_) (.inr hln)
          refine wpAny_mono ((hsu a oe4 cls d (X.pn ++ pins) hz4 ⟨_, hd4⟩).run [] s5 _ H' _ S5 (hyes rfl a na)) (fun f s6 hsp => ?_) (fun _ _ z => False.elim z)
          have end_ : ∀ {σ6 : L2.St} {H6 : Hp} {Q : Shared → Prop}, L2.Inv (X.suite a ((a, oe4) :: (X.pn ++ pins))) [] σ6 H6 s6 → (∀ s7, L2.Inv X pins (σ6.set i none) H6 s7 → Q s7) →
              wpAny (model X.prog X.w) X.A (do bindName X.env n .none; unbindBehindTheSuite X.env n pos') (fun _ s7 => Q s7) X.xe s6 := fun {σ6 H6 Q} S6 hq => gone_ok (S6.unsuite ok) hN hi hln hq
          cases f with
          | next =>
            obtain ⟨σ6, H6, S6, q6⟩ := hsp
            exact end_ S6 fun s7 J7 => ⟨_, _, J7, q6⟩
          | brk =>
            obtain ⟨σ6, H6, S6, q6⟩ := hsp
            exact end_ S6 fun s7 J7 => ⟨_, _, J7, q6⟩
          | cont =>
            obtain ⟨σ6, H6, S6, q6⟩ := hsp
            exact end_ S6 fun s7 J7 => ⟨_, _, J7, q6⟩
          | ret u =>
            obtain ⟨v6, σ6, H6, S6, r6, q6⟩ := hsp
            exact end_ S6 fun s7 J7 => ⟨_, _, _, J7, r6, q6⟩
        | false =>
          show wpAny _ X.A (handleBy (.ref a) X.env hds2) _ _ _
          exact ih (hno rfl)
    exact go hh w
  · cases f with
    | next =>
      obtain ⟨σ', H', J', q⟩ := hsp
      exact wpAny_execs_nil ⟨σ', H', J'.ofTry ok, q⟩
    | brk =>
      obtain ⟨σ', H', J', q⟩ := hsp
      exact ⟨σ', H', J'.ofTry ok, q⟩
    | cont =>
      obtain ⟨σ', H', J', q⟩ := hsp
      exact ⟨σ', H', J'.ofTry ok, q⟩
    | ret u =>
      obtain ⟨v, σ', H', J', r, q⟩ := hsp
      exact ⟨v, σ', H', J'.ofTry ok, r, q⟩
/-- X() -/
theorem pmk_own0 {C : Addr} {bmB : List Value} {B newId initId : String} {x : Str} {p pos : Pos} (F : ExcBaseFacts B newId initId bmB) (q : PySem.W.excIn X.K C bmB newId = true) (gC : X.mg x = some (.ref C)) (kC : PySem.W.keepIn X.K (.ref C) = true) (r : Raises X (.ref C)) (hg : Gl X x := by rfl)
    (hdb : (x == ("__debug__" : Str)) = false := by decide) :
    PMk X (.Call (.Name x p) [] [] pos) (fun σ H Q => Q (.ref C) none H) := by
  intro pins s σ H Q I h
  refine wpAny_Call_Name_kw (ld_glob I hg gC ?_ hdb)
  refine PySem.W.callWith_K0 I.kIn kC ?_
  show wpAny _ _ (call (.ref C) []) _ _ _
  obtain ⟨bm, N, nm, qn, bs, hdct, sn, sub, ab, col, dd, k0, k1, k2, k3, k5, mN, hC, hN, hni, T⟩ := exc_obj I.kIn q
  refine wpAny_call_exc_subT F T hC hN hni (fun h' e hm => ?_) (by rw [sizeLine_eq]; decide)
  exact mk_of I hm r h (I.hok.gone hm.new)
end
end Tq
namespace Tq
open PySem L2 PySem.Spec PyProof.Rows
section
variable {X : Cx} {CX : CXT} {j k : Nat} {sp : Sp} {E : L2.St → XK} {x : Str} {p pos : Pos} {e : Expr} {es : List Expr} {t : TA}
def tDfS (sp : Sp) (E : L2.St → XK) (t : TA) : TE := fun σ H Q => t σ H fun vs H1 => sp vs H1 Q (E σ)
/-- f(e, ..) in a try's body, f a def of the top that may raise -/
theorem pe_dfS (c : Df X.prog X.w X.K X.mg X.base CX k x sp) (hq : Quiet X.A) (hr : Room j X.A) (hx : ∀ σ, PassesAt CX X σ (E σ)) (ha : PA X (e :: es) t)
    (hk : k ≤ j := by omega) (hg : Gl X x := by rfl) (hdb : (x == ("__debug__" : Str)) = false := by decide)
    (he : starEach (e :: es) X.env = (false, eval e X.env) :: starEach es X.env := by rfl) (hpl : (backTo pos (starEach es X.env)).any (·.1) = false := by rfl) :
    PE X (.Call (.Name x p) (e :: es) [] pos) (tDfS sp E t) := by
  obtain ⟨f, fd, ps, hm, hkp, hb, F⟩ := c.ex
  refine ⟨fun pins s σ H Q I h => ?_⟩
  refine wpAny_Call_Name_kw (ld_glob I hg hm ?_ hdb)
  refine PySem.W.callWith_K (h₀ := X.base) I.ok.mod.kin hkp (thn (ha.run pos pins s σ H _ I h) fun us s1 hh => ?_) he hpl
  obtain ⟨vs, H1, I1, r, q⟩ := hh
  refine ⟨I1.kIn, ?_⟩
  have hl : us.length = ps.length := by rw [← r.length]; exact F.len _ _ _ _ q
  have b := hb s1 us I1.kIn (by rw [List.append_nil]; exact hl)
  rw [List.append_nil] at b
  refine wpAny_call (codeAny_mono (F.run X.A X.stack s1 H1 ⟨us, []⟩ us vs Q (E σ) hq (hr.mono hk) I1.env0 b r q) fun r s' hq => ?_)
  cases r with
  | error e => exact hx σ pins H1 s1 e s' I1 hq
  | ok fl =>
    cases fl with
    | ret u => exact I1.after hq
    | next => exact hq.elim
    | brk => exact hq.elim
    | cont => exact hq.elim
end
/-- isinstance(e, c), e the exception that the suite holds: of the class D, without a dict -/
def rIsE2 (K : PySem.W.Frag) (cls : Value) (d : Option Addr) (a : Addr) : List V → Hp → VK → Prop := fun xs H Q => ∃ D, cls = .ref D ∧ d = none ∧ ExcC K D ∧ rIsE K D a xs H Q
theorem call_isE2 {X : Cx} {a : Addr} {oe : Obj} {pn : List (Addr × Obj)} {cls : Value} {d : Option Addr} (hz : Zc cls d oe) (hf : ∃ vs, oe.data = .fields vs) :
    CallR (X.suite a ((a, oe) :: pn)) (.builtin "isinstance") (rIsE2 X.K cls d a) := by
  intro pins s σ H xs us Q I r h
  obtain ⟨D, rfl, rfl, C, h⟩ := h
  exact call_isE C hz hf pins s σ H xs us Q I r h
end Tq

/-! ### Tq: places in a text, plain -/
namespace Tq
open PySem L2 PySem.Spec PyProof.Rows
open TL (joinL)
def rInDT (K : PySem.W.Frag) : R2 := fun x y H Q => ∃ d ds, Dp K H x d ∧ Dp K H y (.tuple ds) ∧ SeqAt.shaped d = true ∧ SeqAt.shaped (.tuple ds) = true ∧ Q (.bl (ds.any fun z => PyData.eqv z d)) H
theorem op_inDT {X : Cx} (hu : X.A.units + 65 < cLine) : OpR X (compareOp .In) (rInDT X.K) := by
  intro pins s σ H x y v u Q I rx ry h
  obtain ⟨d, ds, hd, he, sd, se, q⟩ := h
  obtain ⟨as, r1⟩ := Dp.reads I d x v hd rx
  obtain ⟨bs, r2⟩ := Dp.reads I (.tuple ds) y u he ry
  exact SeqAt.in_tuple_reads r2 r1 (SeqAt.canLay_of_shaped se) (SeqAt.canLay_of_shaped sd) (room_in_shaped sd hu) ⟨.bl _, H, I, rfl, q⟩
/-- the name of a datum's type -/
def tyN : PyData → String
  | .none => "NoneType"
  | .bool _ => "bool"
  | .int _ => "int"
  | .str _ => "str"
  | .list _ => "list"
  | .tuple _ => "tuple"
  | _ => "dict"
theorem sqL_ty {K : PySem.W.Frag} {H : Hp} {a : Addr} {xs : List V} (h : SqL K H a xs) : TyX K H (.ref a) (.type "list") := by
  rcases h with (h | ⟨o, h⟩) | ⟨o, _, _, h, c, _⟩
  · exact .base (.lst h)
  · exact .base (.frz h)
  · exact .kList h c
theorem sqT_ty {K : PySem.W.Frag} {H : Hp} {a : Addr} {xs : List V} (h : SqT K H a xs) : TyX K H (.ref a) (.type "tuple") := by
  rcases h with (h | ⟨o, h⟩) | ⟨o, _, _, h, c, _⟩
  · exact .base (.tup h)
  · exact .fTuple h
  · exact .kTuple h c
theorem dp_ty {K : PySem.W.Frag} {H : Hp} {v : V} {d : PyData} (h : Dp K H v d) : TyX K H v (.type (tyN d)) := by
  cases h with
  | non => exact .base .non
  | bl b => exact .base (.bl b)
  | int i => exact .base (.int i)
  | str x => exact .base (.str x)
  | lst h _ => exact sqL_ty h
  | tup h _ => exact sqT_ty h
def isI : PyData → Bool
  | .int _ => true
  | _ => false
def isB : PyData → Bool
  | .bool _ => true
  | _ => false
theorem dp_int {K : PySem.W.Frag} {H : Hp} {v : V} {d : PyData} (h : Dp K H v d) : PySem.W.kitOne K (.type (tyN d)) (.type "int") = some (isI d || isB d) := by
  cases h with
  | non => exact kit_ty (show kitB "NoneType" "int" = some false by decide +kernel)
  | bl _ => exact kit_ty (show kitB "bool" "int" = some true by decide +kernel)
  | int _ => exact kit_ty (show kitB "int" "int" = some true by decide +kernel)
  | str _ => exact kit_ty (show kitB "str" "int" = some false by decide +kernel)
  | lst _ _ => exact kit_ty (show kitB "list" "int" = some false by decide +kernel)
  | tup _ _ => exact kit_ty (show kitB "tuple" "int" = some false by decide +kernel)
theorem dp_bool {K : PySem.W.Frag} {H : Hp} {v : V} {d : PyData} (h : Dp K H v d) : PySem.W.kitOne K (.type (tyN d)) (.type "bool") = some (isB d) := by
  cases h with
  | non => exact kit_ty (show kitB "NoneType" "bool" = some false by decide +kernel)
  | bl _ => exact kit_ty (show kitB "bool" "bool" = some true by decide +kernel)
  | int _ => exact kit_ty (show kitB "int" "bool" = some false by decide +kernel)
  | str _ => exact kit_ty (show kitB "str" "bool" = some false by decide +kernel)
  | lst _ _ => exact kit_ty (show kitB "list" "bool" = some false by decide +kernel)
  | tup _ _ => exact kit_ty (show kitB "tuple" "bool" = some false by decide +kernel)
/-! lists -/
def stOf : List (List Nat) → Nat → Nat
  | _, 0 => 0
  | [], _ + 1 => 0
  | r :: R, k + 1 => r.length + 1 + stOf R k
theorem joinL_drop : ∀ (R : List (List Nat)) (i : Nat), i < R.length → (joinL [10] R).drop (stOf R i) = joinL [10] (R.drop i)
  | R, 0, _ => by simp [stOf]
  | [], i + 1, h => absurd h (by simp)
  | [p], i + 1, h => absurd h (by simp)
  | p :: q :: r, i + 1, h => by
    have h' : i < (q :: r).length := by simpa using h
    show (p ++ ([10] ++ joinL [10] (q :: r))).drop (p.length + 1 + stOf (q :: r) i) = joinL [10] ((q :: r).drop i)
    rw [← joinL_drop (q :: r) i h']
    have e : p ++ ([10] ++ joinL [10] (q :: r)) = (p ++ [10]) ++ joinL [10] (q :: r) := by simp
    have l : (p ++ [10]).length = p.length + 1 := by simp
    rw [e, ← List.drop_drop, ← l, List.drop_left]
theorem joinL_take : ∀ (R : List (List Nat)) (j d : Nat) (row : List Nat), R[j]? = some row → d ≤ row.length → (joinL [10] R).take (stOf R j + d) = joinL [10] (R.take j ++ [row.take d])
  | [], j, d, row, h, _ => by simp at h
  | [p], 0, d, row, h, hd => by
    have e : p = row := by simpa using h
    subst e
    simp [stOf, joinL]
  | [p], j + 1, d, row, h, hd => by simp at h
  | p :: q :: r, 0, d, row, h, hd => by
    have e : p = row := by simpa using h
    subst e
    show (p ++ ([10] ++ joinL [10] (q :: r))).take (0 + d) = p.take d
    rw [Nat.zero_add, List.take_append_of_le_length hd]
  | p :: q :: r, j + 1, d, row, h, hd => by
    have h' : (q :: r)[j]? = some row := by simpa using h
    have ih := joinL_take (q :: r) j d row h' hd
    show (p ++ ([10] ++ joinL [10] (q :: r))).take (p.length + 1 + stOf (q :: r) j + d) = _
    have e : p ++ ([10] ++ joinL [10] (q :: r)) = (p ++ [10]) ++ joinL [10] (q :: r) := by simp
    have l : p.length + 1 + stOf (q :: r) j + d = (p ++ [10]).length + (stOf (q :: r) j + d) := by simp; omega
    rw [e, l, List.take_length_add_append, ih]
    cases j with
    | zero =>
      simp [joinL]
    | succ j =>
      simp [joinL]
theorem joinL_first (b : Nat) (p : List Nat) (r : List (List Nat)) (h : b ≤ p.length) : (joinL [10] (p :: r)).drop b = joinL [10] (p.drop b :: r) := by
  cases r with
  | nil => rfl
  | cons q r => show (p ++ _).drop b = p.drop b ++ _; rw [List.drop_append_of_le_length h]
theorem stOf_add : ∀ (R : List (List Nat)) (i k : Nat), i + k ≤ R.length → stOf R (i + k) = stOf R i + stOf (R.drop i) k
  | R, 0, k, _ => by simp [stOf]
  | [], i + 1, k, h => by simp at h
  | r :: R, i + 1, k, h => by
    have h' : i + k ≤ R.length := by simp at h; omega
    rw [show i + 1 + k = (i + k) + 1 by omega]
    show r.length + 1 + stOf R (i + k) = r.length + 1 + stOf R i + stOf (R.drop i) k
    rw [stOf_add R i k h']
    omega
theorem stOf_step (R : List (List Nat)) (i : Nat) (row : List Nat) (h : R[i]? = some row) : stOf R (i + 1) = stOf R i + row.length + 1 := by
  have hl : i < R.length := (List.getElem?_eq_some_iff.mp h).1
  rw [stOf_add R i 1 hl]
  have : R.drop i = row :: R.drop (i + 1) := by rw [List.drop_eq_getElem_cons hl, (List.getElem?_eq_some_iff.mp h).2]
  rw [this]
  simp [stOf]
  omega
theorem stOf_mono (R : List (List Nat)) {i j : Nat} (h : i ≤ j) (hj : j ≤ R.length) : stOf R i ≤ stOf R j := by
  obtain ⟨k, rfl⟩ := Nat.le.dest h
  rw [stOf_add R i k hj]
  omega
/-- the text between two places, from the whole and from the rows -/
theorem seg_eq (R : List (List Nat)) (i j b d : Nat) (ri rj : List Nat) (hi : R[i]? = some ri) (hj : R[j]? = some rj) (hb : b ≤ ri.length) (hd : d ≤ rj.length) (hle : stOf R i + b ≤ stOf R j + d) (hij : i ≤ j) :
    ((joinL [10] R).drop (stOf R i + b)).take (stOf R j + d - (stOf R i + b)) = joinL [10] (match (R.drop i).take (j - i) ++ [rj.take d] with | [] => [] | p :: r => p.drop b :: r) := by
  have hil : i < R.length := (List.getElem?_eq_some_iff.mp hi).1
  have hjl : j < R.length := (List.getElem?_eq_some_iff.mp hj).1
  obtain ⟨k, rfl⟩ := Nat.le.dest hij
  have es : stOf R (i + k) = stOf R i + stOf (R.drop i) k := stOf_add R i k (Nat.le_of_lt hjl)
  have hj' : (R.drop i)[k]? = some rj := by rw [List.getElem?_drop]; exact hj
  have e1 : ((joinL [10] R).drop (stOf R i + b)).take (stOf R (i + k) + d - (stOf R i + b)) = (((joinL [10] R).drop (stOf R i)).take (stOf (R.drop i) k + d)).drop b := by
    rw [← List.drop_drop, List.drop_take]
    congr 1
    omega
  rw [e1, joinL_drop R i hil, joinL_take (R.drop i) k d rj hj' hd, Nat.add_sub_cancel_left]
  cases k with
  | zero =>
    have er : ri = rj := by rw [Nat.add_zero] at hj; exact Option.some.inj (hi.symm.trans hj)
    subst er
    rw [List.take_zero, List.nil_append]
    rw [joinL_first b _ _ (by rw [List.length_take]; rw [es] at hle; simp [stOf] at hle; omega)]
  | succ k =>
    have e2 : R.drop i = ri :: R.drop (i + 1) := by rw [List.drop_eq_getElem_cons hil, (List.getElem?_eq_some_iff.mp hi).2]
    rw [e2, List.take_succ_cons, List.cons_append, joinL_first b _ _ hb]
theorem seg_lt (R : List (List Nat)) (i j b d : Nat) (ri rj : List Nat) (hi : R[i]? = some ri) (hj : R[j]? = some rj) (hb : b ≤ ri.length) (hd : d ≤ rj.length) :
    (stOf R j + d < stOf R i + b) ↔ (j < i ∨ (j = i ∧ d < b)) := by
  have hil : i < R.length := (List.getElem?_eq_some_iff.mp hi).1
  have hjl : j < R.length := (List.getElem?_eq_some_iff.mp hj).1
  rcases Nat.lt_trichotomy j i with h | h | h
  · have s1 := stOf_step R j rj hj
    have s2 := stOf_mono R (show j + 1 ≤ i from h) (Nat.le_of_lt hil)
    omega
  · subst h
    omega
  · have s1 := stOf_step R i ri hi
    have s2 := stOf_mono R (show i + 1 ≤ j from h) (Nat.le_of_lt hjl)
    omega
/-! texts -/
theorem str_ext {a b : Str} (h : a.cps.toList = b.cps.toList) : a = b := by
  obtain ⟨x⟩ := a
  obtain ⟨y⟩ := b
  have : x = y := Array.toList_inj.mp h
  rw [this]
theorem str_len (z : Str) : z.cps.toList.length = z.length := by show _ = z.cps.size; simp
theorem tl_cut (z : Str) (b d : Nat) (hb : b ≤ z.length) (hd : d ≤ z.length) : (cutS z (some (b : Int)) (some (d : Int))).cps.toList = (z.cps.toList.drop b).take (d - b) := by
  unfold cutS
  rw [HT.sIx_nat, HT.sIx_nat, Nat.min_eq_left hb, Nat.min_eq_left hd]
theorem tl_from (z : Str) (b : Nat) (hb : b ≤ z.length) : (cutS z (some (b : Int)) none).cps.toList = z.cps.toList.drop b := by
  unfold cutS
  rw [HT.sIx_nat, Nat.min_eq_left hb]
  show (z.cps.toList.drop b).take (z.length - b) = _
  rw [List.take_of_length_le]
  rw [List.length_drop, str_len]
  exact Nat.le_refl _
theorem tl_to (z : Str) (d : Nat) (hd : d ≤ z.length) : (cutS z none (some (d : Int))).cps.toList = z.cps.toList.take d := by
  unfold cutS
  rw [HT.sIx_nat, Nat.min_eq_left hd]
  rfl
abbrev rowL (rows : List Str) : List (List Nat) := rows.map fun r => r.cps.toList
def partOf (rows : List Str) (i j : Nat) (rj : Str) (b d : Nat) : List Str := match (rows.drop i).take (j - i) ++ [cutS rj none (some (d : Int))] with
  | [] => []
  | p :: r => cutS p (some (b : Int)) none :: r
theorem join_tl (y : Str) (parts : List Str) : (Txt.join y parts).cps.toList = joinL y.cps.toList (parts.map fun r => r.cps.toList) := by
  rw [TL.join_eq]
  exact TL.tl_join y parts
theorem seg_text (rows : List Str) (i j b d : Nat) (ri rj : Str) (hi : rows[i]? = some ri) (hj : rows[j]? = some rj) (hb : b ≤ ri.length) (hd : d ≤ rj.length) (hle : stOf (rowL rows) i + b ≤ stOf (rowL rows) j + d) (hij : i ≤ j)
    (hl : stOf (rowL rows) j + d ≤ (Txt.join "\n" rows).length) :
    cutS (Txt.join "\n" rows) (some ((stOf (rowL rows) i + b : Nat) : Int)) (some ((stOf (rowL rows) j + d : Nat) : Int)) = Txt.join "\n" (partOf rows i j rj b d) := by
  apply str_ext
  rw [tl_cut _ _ _ (Nat.le_trans hle hl) hl, join_tl, join_tl]
  have hi' : (rowL rows)[i]? = some ri.cps.toList := by simp [rowL, hi]
  have hj' : (rowL rows)[j]? = some rj.cps.toList := by simp [rowL, hj]
  have key := seg_eq (rowL rows) i j b d ri.cps.toList rj.cps.toList hi' hj' (by rw [str_len]; exact hb) (by rw [str_len]; exact hd) hle hij
  refine Eq.trans key ?_
  show joinL [10] _ = joinL [10] _
  congr 1
  unfold partOf
  have e : ((rowL rows).drop i).take (j - i) = ((rows.drop i).take (j - i)).map fun r => r.cps.toList := by rw [List.map_take, List.map_drop]
  rw [e]
  cases h : (rows.drop i).take (j - i) with
  | nil =>
    have hij2 : i = j := by
      have hl2 := congrArg List.length h
      rw [List.length_take, List.length_drop] at hl2
      have := (List.getElem?_eq_some_iff.mp hj).1
      simp at hl2
      omega
    subst hij2
    have er : ri = rj := Option.some.inj (hi.symm.trans hj)
    subst er
    have hbd : b ≤ d := by omega
    show [List.drop b (ri.cps.toList.take d)] = [(cutS (cutS ri none (some (d : Int))) (some (b : Int)) none).cps.toList]
    have hz : (cutS ri none (some (d : Int))).length = d := by rw [← str_len, tl_to _ _ hd, List.length_take, str_len]; omega
    rw [tl_from _ _ (by rw [hz]; exact hbd), tl_to _ _ hd]
  | cons p r =>
    have ep : p = ri := by
      have h0 : ((rows.drop i).take (j - i))[0]? = some p := by rw [h]; rfl
      have hlt : 0 < j - i := by
        have hl2 := congrArg List.length h
        rw [List.length_take] at hl2
        simp at hl2
        omega
      rw [List.getElem?_take_of_lt hlt, List.getElem?_drop] at h0
      exact Option.some.inj (h0.symm.trans hi)
    subst ep
    show List.drop b p.cps.toList :: (r.map (fun r => r.cps.toList) ++ [rj.cps.toList.take d]) = (cutS p (some (b : Int)) none).cps.toList :: (r ++ [cutS rj none (some (d : Int))]).map fun r => r.cps.toList
    rw [tl_from _ _ hb, List.map_append, List.map_cons, List.map_nil, tl_to _ _ hd]
theorem joinL_len : ∀ (R : List (List Nat)), R ≠ [] → (joinL [10] R).length + 1 = stOf R R.length
  | [], h => absurd rfl h
  | [p], _ => by simp [joinL, stOf]
  | p :: q :: r, _ => by
    have ih := joinL_len (q :: r) (by simp)
    show (p ++ ([10] ++ joinL [10] (q :: r))).length + 1 = p.length + 1 + stOf (q :: r) (q :: r).length
    rw [← ih]
    simp
    omega
theorem seg_in (rows : List Str) (j d : Nat) (rj : Str) (hj : rows[j]? = some rj) (hd : d ≤ rj.length) : stOf (rowL rows) j + d ≤ (Txt.join "\n" rows).length := by
  have hl : j < rows.length := (List.getElem?_eq_some_iff.mp hj).1
  have hj' : (rowL rows)[j]? = some rj.cps.toList := by simp [rowL, hj]
  have s1 := stOf_step (rowL rows) j rj.cps.toList hj'
  have s2 := stOf_mono (rowL rows) (show j + 1 ≤ (rowL rows).length by simp [rowL]; exact hl) (Nat.le_refl _)
  have s3 := joinL_len (rowL rows) (fun e => by simp [rowL] at e; subst e; simp at hl)
  have s4 : (Txt.join "\n" rows).length = (joinL [10] (rowL rows)).length := by rw [← str_len, join_tl]; rfl
  rw [str_len] at s1
  omega
/-- line a, column b (as they are written) is a place of the rows -/
def isPl (rows : List Str) : PyData → PyData → Bool
  | .int a, .int b => decide (1 ≤ a) && (decide (a ≤ rows.length) && (decide (0 ≤ b) && decide (b ≤ ((rows[(a - 1).toNat]?).getD "").length)))
  | _, _ => false
def noneIn (ds : List PyData) : Bool := ds.any fun z => PyData.eqv z .none
/-- what source_segment answers: none: BadPlace -/
def segR (rows : List Str) (d0 d1 d2 d3 : PyData) : Option (Option Str) :=
  if noneIn [d0, d1, d2, d3] = true then some none
  else if (isPl rows d0 d1 && isPl rows d2 d3) = true then
    match d0, d1, d2, d3 with
    | .int a, .int b, .int c, .int d => if HT.lexLt [c, d] [a, b] = true then none else some (some (Txt.join "\n" (partOf rows (a - 1).toNat (c - 1).toNat ((rows[(c - 1).toNat]?).getD "") b.toNat d.toNat)))
    | _, _, _, _ => none
  else none
def dueR (rows : List Str) (d0 d1 d2 d3 : PyData) : Option (Option Str) :=
  if noneIn [d0, d1, d2, d3] = true then some none
  else if (isPl rows d0 d1 && isPl rows d2 d3) = true then
    match d0, d1, d2, d3 with
    | .int a, .int b, .int c, .int d => if ((stOf (rowL rows) (a - 1).toNat : Int) + b ≤ (stOf (rowL rows) (c - 1).toNat : Int) + d) then some (some (cutS (Txt.join "\n" rows) (some ((stOf (rowL rows) (a - 1).toNat : Int) + b)) (some ((stOf (rowL rows) (c - 1).toNat : Int) + d)))) else none
    | _, _, _, _ => none
  else none
theorem isPl_int {rows : List Str} {d1 d2 : PyData} (h : isPl rows d1 d2 = true) : ∃ (i b : Nat) (r : Str), d1 = .int ((i : Int) + 1) ∧ d2 = .int b ∧ rows[i]? = some r ∧ b ≤ r.length := by
  unfold isPl at h
  split at h
  · rename_i a b
    simp only [Bool.and_eq_true, decide_eq_true_eq] at h
    obtain ⟨h1, h2, h3, h4⟩ := h
    have hi : (a - 1).toNat < rows.length := by omega
    obtain ⟨r, hr⟩ : ∃ r, rows[(a - 1).toNat]? = some r := ⟨_, List.getElem?_eq_getElem hi⟩
    rw [hr] at h4
    refine ⟨(a - 1).toNat, b.toNat, r, ?_, ?_, hr, ?_⟩
    · congr 1; omega
    · congr 1; omega
    · have : ((some r).getD "").length = r.length := rfl
      rw [this] at h4
      omega
  · cases h
theorem due_seg (rows : List Str) (d0 d1 d2 d3 : PyData) : dueR rows d0 d1 d2 d3 = segR rows d0 d1 d2 d3 := by
  unfold dueR segR
  split
  · rfl
  · split
    · rename_i h
      obtain ⟨h1, h2⟩ := Bool.and_eq_true_iff.mp h
      obtain ⟨i, b, ri, rfl, rfl, hi, hb⟩ := isPl_int h1
      obtain ⟨j, d, rj, rfl, rfl, hj, hd⟩ := isPl_int h2
      have ei : ((i : Int) + 1 - 1).toNat = i := by omega
      have ej : ((j : Int) + 1 - 1).toNat = j := by omega
      have hi' : (rowL rows)[i]? = some ri.cps.toList := by simp [rowL, hi]
      have hj' : (rowL rows)[j]? = some rj.cps.toList := by simp [rowL, hj]
      have lt := seg_lt (rowL rows) i j b d ri.cps.toList rj.cps.toList hi' hj' (by rw [str_len]; exact hb) (by rw [str_len]; exact hd)
      simp only [ei, ej, Int.toNat_natCast, hj]
      have lx : HT.lexLt [((j : Int) + 1), (d : Int)] [((i : Int) + 1), (b : Int)] = decide (j < i ∨ (j = i ∧ d < b)) := by
        rw [HT.lexLt_cons]
        by_cases e : (j : Int) + 1 = (i : Int) + 1
        · rw [if_pos e, HT.lexLt_cons]
          by_cases e2 : (d : Int) = b
          · rw [if_pos e2]
            symm
            exact decide_eq_false (by omega)
          · rw [if_neg e2]
            exact decide_eq_decide.mpr (by omega)
        · rw [if_neg e]
          exact decide_eq_decide.mpr (by omega)
      rw [lx]
      by_cases q : j < i ∨ (j = i ∧ d < b)
      · rw [if_neg (by have := lt.mpr q; omega), if_pos (decide_eq_true q)]
      · have q2 : stOf (rowL rows) i + b ≤ stOf (rowL rows) j + d := by
          have := fun z => q (lt.mp z)
          omega
        rw [if_pos (by omega), if_neg (by simpa using q)]
        congr 2
        have key := seg_text rows i j b d ri rj hi hj hb hd q2 (by omega) (seg_in rows j d rj hj hd)
        exact key
    · rfl
/-- the answers as data -/
def ansD : Option (Option Str) → PyData
  | none => .tuple [.str "place", .bool true]
  | some none => .tuple [.str "told", .none]
  | some (some s) => .tuple [.str "told", .str s]
end Tq
namespace Tq
open PySem L2 PySem.Spec PyProof.Rows
theorem hu65 {k : Nat} {A : Around} (r : Room k A) : A.units + 65 < cLine := by have := r.un; omega
/-- the classes of the law of segments -/
structure Cl57 (K : PySem.W.Frag) (mg : Str → Option Value) (C CP CN TE : Addr) : Prop where
  nd : NdC K C
  gN : mg "Node" = some (.ref C)
  ha : PySem.W.findIn K (.ref C) "__class__" = some (some (.builtin "object.__class__"))
  hn : PySem.W.specialIn K (.builtin "object.__class__") "__get__" = some (some (.builtin "getset_descriptor.__get__"))
  htk : PySem.W.takesIn K (.builtin "object.__class__") = some true
  hm : PySem.W.mroIn K C (.type "object") = some true
  kc : (PySem.W.clsIn K C).isSome = true
  ty : PySem.W.typeIn K (.ref C) = some (.type "type")
  kp : Kl K mg "BadPlace" CP TE
  kn : Kl K mg "BadNode" CN TE
  te : Tq.KT K mg TE
  qp : PySem.W.excIn K CP [.type "ValueError", .type "Exception", .type "BaseException", .type "object"] "ValueError.__new__" = true
  qn : PySem.W.excIn K CN [.type "ValueError", .type "Exception", .type "BaseException", .type "object"] "ValueError.__new__" = true
theorem Cl57.isN {K : PySem.W.Frag} {mg : Str → Option Value} {C CP CN TE : Addr} (T : Cl57 K mg C CP CN TE) {H : Hp} {x dx : Addr} {fs : List (Str × V)} (h : H x = some (.ins C dx fs)) : TyX K H (.ref x) (.ref C) := .base (.ins h T.nd.cls T.ha T.hn T.htk T.hm)
theorem Cl57.kitN {K : PySem.W.Frag} {mg : Str → Option Value} {C CP CN TE : Addr} (T : Cl57 K mg C CP CN TE) : PySem.W.kitOne K (.ref C) (.ref C) = some true := by
  unfold PySem.W.kitOne
  rw [if_pos (beq_self_eq_true _)]
theorem Cl57.no {K : PySem.W.Frag} {mg : Str → Option Value} {C CP CN TE : Addr} (T : Cl57 K mg C CP CN TE) {t : String} (hm : ((PySem.fastBuiltinMro t).map fun m => m.all fun v => match v with | .ref _ => false | _ => true) = some true) : PySem.W.kitOne K (.type t) (.ref C) = some false := by
  unfold PySem.W.kitOne
  rw [if_neg (by simp)]
  show PySem.W.kitCls K (.type t) (.ref C) = _
  unfold PySem.W.kitCls
  simp only [T.kc, T.ty]
  rw [if_pos (by decide)]
  show (PySem.fastBuiltinMro t).map (·.contains (Value.ref C)) = some false
  obtain ⟨m, e1, e2⟩ := Option.map_eq_some_iff.mp hm
  rw [e1]
  show some (m.contains (Value.ref C)) = some false
  congr 1
  rw [← Bool.not_eq_true, List.contains_iff_mem]
  intro hmem
  have := List.all_eq_true.mp e2 _ hmem
  cases this
theorem Cl57.dpNo {K : PySem.W.Frag} {mg : Str → Option Value} {C CP CN TE : Addr} (T : Cl57 K mg C CP CN TE) {H : Hp} {v : V} {d : PyData} (h : Dp K H v d) : PySem.W.kitOne K (.type (tyN d)) (.ref C) = some false := by
  cases h with
  | non => exact T.no (t := "NoneType") (by decide +kernel)
  | bl _ => exact T.no (t := "bool") (by decide +kernel)
  | int _ => exact T.no (t := "int") (by decide +kernel)
  | str _ => exact T.no (t := "str") (by decide +kernel)
  | lst _ _ => exact T.no (t := "list") (by decide +kernel)
  | tup _ _ => exact T.no (t := "tuple") (by decide +kernel)
/-- is_integer -/
def spInt (K : PySem.W.Frag) : Sp := fun vs H Q _ => ∃ v d, vs = [v] ∧ Dp K H v d ∧ Q (.bl (isI d)) H
/-- is_place -/
def spPlace (K : PySem.W.Frag) : Sp := fun vs H Q _ => ∃ p v1 v2 rows d1 d2, vs = [.ref p, v1, v2] ∧ SqL K H p (rows.map V.str) ∧ Dp K H v1 d1 ∧ Dp K H v2 d2 ∧ (∀ r ∈ rows, r.length ≤ sizeLine) ∧ Q (.bl (isPl rows d1 d2)) H
/-- checked_node -/
def spChk (K : PySem.W.Frag) (C CN : Addr) : Sp := fun vs H Q E => ∃ v, vs = [v] ∧ ((∃ x dx fs, v = .ref x ∧ H x = some (.ins C dx fs) ∧ Q v H) ∨ (∃ ty, TyX K H v ty ∧ PySem.W.kitOne K ty (.ref C) = some false ∧ E (.ref CN) none H))
/-- place_of -/
def spPlaceOf (C : Addr) : Sp := fun vs H Q _ => ∃ x dx kd hh v0 v1 v2 v3, vs = [.ref x] ∧ H x = some (.ins C dx (ndF kd hh v0 v1 v2 v3)) ∧ ∀ p, H p = none → Q (.ref p) (upd H p (.tup [v0, v1, v2, v3]))
/-- source_segment -/
def spSeg (K : PySem.W.Frag) (C CP CN : Addr) : Sp := fun vs H Q E => ∃ tx v rows, vs = [.str tx, v] ∧ Txt.split tx "\n" = rows ∧ tx.length + 2 ≤ sizeLine ∧ rows.length ≤ 100 ∧ (∀ r ∈ rows, r.length ≤ 100) ∧
  ((∃ ty, TyX K H v ty ∧ PySem.W.kitOne K ty (.ref C) = some false ∧ E (.ref CN) none H) ∨
   (∃ x dx kd hh v0 v1 v2 v3 d0 d1 d2 d3, v = .ref x ∧ H x = some (.ins C dx (ndF kd hh v0 v1 v2 v3)) ∧ Dp K H v0 d0 ∧ Dp K H v1 d1 ∧ Dp K H v2 d2 ∧ Dp K H v3 d3 ∧ SeqAt.shaped (.tuple [d0, d1, d2, d3]) = true ∧
     (segR rows d0 d1 d2 d3 = none → ∀ H', Same H H' → E (.ref CP) none H') ∧ (segR rows d0 d1 d2 d3 = some none → ∀ H', Same H H' → Q .non H') ∧ (∀ s, segR rows d0 d1 d2 d3 = some (some s) → ∀ H', Same H H' → Q (.str s) H')))
end Tq
namespace Tq
open PySem L2 PySem.Spec PyProof.Rows
theorem ixN_last {n : Nat} : ixN (n + 1) (-1) = some n := by
  unfold ixN
  rw [if_neg (by omega)]
  split
  · congr 1
    omega
  · omega
theorem atI_last {α : Type} (xs : List α) (y : α) : atI (xs ++ [y]) (-1) = some y := by
  unfold atI
  rw [List.length_append, List.length_singleton, ixN_last]
  simp
theorem set_last {α : Type} (xs : List α) (y z : α) : (xs ++ [y]).set xs.length z = xs ++ [z] := by
  rw [List.set_append_right _ _ (Nat.le_refl _)]
  simp
theorem cutV_rows (rows : List Str) (i j : Nat) (rj : Str) (hj : rows[j]? = some rj) (hij : i ≤ j) : cutV (rows.map V.str) (some ((i : Int) + 1 - 1)) (some ((j : Int) + 1)) = ((rows.drop i).take (j - i) ++ [rj]).map V.str := by
  have hl : j < rows.length := (List.getElem?_eq_some_iff.mp hj).1
  unfold cutV
  have e1 : (i : Int) + 1 - 1 = (i : Nat) := by omega
  have e2 : (j : Int) + 1 = ((j + 1 : Nat) : Int) := by omega
  rw [e1, e2, HT.sIx_nat, HT.sIx_nat, List.length_map, Nat.min_eq_left (by omega), Nat.min_eq_left (by omega), ← List.map_drop, ← List.map_take]
  congr 1
  rw [show j + 1 - i = (j - i) + 1 by omega, List.take_add_one, List.getElem?_drop, show i + (j - i) = j by omega, hj]
  rfl
theorem sum_le {ys : List Str} {m : Nat} (h : ∀ r ∈ ys, r.length ≤ m) : (ys.map (·.length)).sum ≤ ys.length * m := by
  induction ys with
  | nil => simp
  | cons y ys ih =>
    have h1 := h y (.head _)
    have h2 := ih fun r hr => h r (.tail _ hr)
    rw [List.map_cons, List.sum_cons, List.length_cons, Nat.add_mul]
    omega
end Tq
namespace Tq
open PySem L2 PySem.Spec PyProof.Rows
/-- _law_due -/
def spDue (K : PySem.W.Frag) : Sp := fun vs H Q _ => ∃ p q rows v0 v1 v2 v3 d0 d1 d2 d3, vs = [.ref p, .ref q] ∧ SqL K H p (rows.map V.str) ∧ SqL K H q [v0, v1, v2, v3] ∧ Dp K H v0 d0 ∧ Dp K H v1 d1 ∧ Dp K H v2 d2 ∧ Dp K H v3 d3 ∧
  SeqAt.shaped (.list [d0, d1, d2, d3]) = true ∧ rows.length ≤ 100 ∧ (∀ r ∈ rows, r.length ≤ 100) ∧
  ∀ a H', Same H H' → Dp K H' (.ref a) (ansD (dueR rows d0 d1 d2 d3)) → Q (.ref a) H'
/-- _law_node -/
def spNode57 (t : Tb) (C : Addr) : Sp := fun vs H Q _ => ∃ z rows f l v0 v1 v2 v3, vs = [.str z, .ref f, .ref l] ∧ t.rows z = some rows ∧ H f = some (.tup [v0, v1]) ∧ H l = some (.tup [v2, v3]) ∧
  ∀ x dx hh H', Same H H' → H x = none → H' x = some (.ins C dx (ndF (.str z) hh v0 v1 v2 v3)) → Q (.ref x) H'
/-- _law_tried -/
def spTried (K : PySem.W.Frag) (C : Addr) : Sp := fun vs H Q _ => ∃ tx v rows, vs = [.str tx, v] ∧ Txt.split tx "\n" = rows ∧ tx.length + 2 ≤ sizeLine ∧ rows.length ≤ 100 ∧ (∀ r ∈ rows, r.length ≤ 100) ∧
  ((∃ ty, TyX K H v ty ∧ PySem.W.kitOne K ty (.ref C) = some false ∧ ∀ a H', Same H H' → Dp K H' (.ref a) (.tuple [.str "node", .bool true]) → Q (.ref a) H') ∨
   (∃ x dx kd hh v0 v1 v2 v3 d0 d1 d2 d3, v = .ref x ∧ H x = some (.ins C dx (ndF kd hh v0 v1 v2 v3)) ∧ Dp K H v0 d0 ∧ Dp K H v1 d1 ∧ Dp K H v2 d2 ∧ Dp K H v3 d3 ∧ SeqAt.shaped (.tuple [d0, d1, d2, d3]) = true ∧
     ∀ a H', Same H H' → Dp K H' (.ref a) (ansD (segR rows d0 d1 d2 d3)) → Q (.ref a) H'))
end Tq
namespace Tq
open PySem L2 PySem.Spec PyProof.Rows
theorem ty_same {K : PySem.W.Frag} {H H' : Hp} {v : V} {t : Value} (e : Same H H') (h : TyX K H v t) : TyX K H' v t := by
  cases h with
  | base b =>
    cases b with
    | non => exact .base .non
    | bl b => exact .base (.bl b)
    | int b => exact .base (.int b)
    | str b => exact .base (.str b)
    | flt b => exact .base (.flt b)
    | lst h => exact .base (.lst (e _ _ h))
    | frz h => exact .base (.frz (e _ _ h))
    | tup h => exact .base (.tup (e _ _ h))
    | dK h => exact .base (.dK (e _ _ h))
    | dT h => exact .base (.dT (e _ _ h))
    | ins h a b c d f => exact .base (.ins (e _ _ h) a b c d f)
  | byt b => exact .byt b
  | set h => exact .set (e _ _ h)
  | kList h c => exact .kList h c
  | kTuple h c => exact .kTuple h c
  | kDict h c => exact .kDict h c
  | fTuple h => exact .fTuple (e _ _ h)
  | fDict h => exact .fDict (e _ _ h)
theorem Kl.sub_other {K : PySem.W.Frag} {mg : Str → Option Value} {x y : Str} {C D TE : Addr} (T : Kl K mg x C TE) (U : Kl K mg y D TE) (h : x ≠ y) (hD : D ≠ TE) : PySem.W.subIn K (.ref C) (.ref D) = some false := by
  rw [T.sub]
  have ne := T.ne U h
  simp [List.contains_cons, Ne.symm ne, hD]
theorem Kl.exm_other {K : PySem.W.Frag} {mg : Str → Option Value} {x y : Str} {C D TE : Addr} (T : Kl K mg x C TE) (U : Kl K mg y D TE) (h : x ≠ y) (hD : D ≠ TE) : PySem.W.exmOne K (.ref C) (.ref D) = some false :=
  PySem.W.exm_ref U.ec.hs U.ec.hd U.ty (T.sub_other U h hD)
theorem Kl.exm_own {K : PySem.W.Frag} {mg : Str → Option Value} {x : Str} {C TE : Addr} (T : Kl K mg x C TE) : PySem.W.exmOne K (.ref C) (.ref C) = some true :=
  PySem.W.exm_ref T.ec.hs T.ec.hd T.ty (by rw [T.sub]; simp [List.contains_cons])
theorem dp_pair {K : PySem.W.Frag} {H : Hp} {p : Addr} {v1 v2 : V} {d1 d2 : PyData} (hp : H p = none) (h1 : Dp K H v1 d1) (h2 : Dp K H v2 d2) : Dp K (upd H p (.tup [v1, v2])) (.ref p) (.tuple [d1, d2]) :=
  .tup (.inl (.inl upd_same)) (.cons (dp_same (same_new hp) _ _ h1) (.cons (dp_same (same_new hp) _ _ h2) .nil))
end Tq
namespace Tq
open PySem L2 PySem.Spec PyProof.Rows
/-- _law_is_spot -/
def spSpotQ (K : PySem.W.Frag) : Sp := fun vs H Q _ => ∃ p v1 v2 rows d1 d2, vs = [.ref p, v1, v2] ∧ SqL K H p (rows.map V.str) ∧ Dp K H v1 d1 ∧ Dp K H v2 d2 ∧ (∀ r ∈ rows, r.length ≤ sizeLine) ∧ ∀ H', Same H H' → Q (.bl (isPl rows d1 d2)) H'
theorem stOf_le {m : Nat} : ∀ (R : List (List Nat)), (∀ r ∈ R, r.length ≤ m) → ∀ k, stOf R k ≤ R.length * (m + 1)
  | R, _, 0 => by cases R <;> exact Nat.zero_le _
  | [], _, k + 1 => Nat.zero_le _
  | r :: R, h, k + 1 => by
    have h1 := h r (.head _)
    have h2 := stOf_le R (fun x hx => h x (.tail _ hx)) k
    show r.length + 1 + stOf R k ≤ (R.length + 1) * (m + 1)
    rw [Nat.add_mul]
    omega
theorem join_len_le {rows : List Str} {m : Nat} (h0 : rows ≠ []) (h : ∀ r ∈ rows, r.length ≤ m) : (Txt.join "\n" rows).length ≤ rows.length * (m + 1) := by
  have s3 := joinL_len (rowL rows) (fun e => h0 (by simpa [rowL] using e))
  have s4 : (Txt.join "\n" rows).length = (TL.joinL [10] (rowL rows)).length := by rw [← str_len, join_tl]; rfl
  have s5 := stOf_le (m := m) (rowL rows) (fun r hr => by
    obtain ⟨x, hx, rfl⟩ := List.mem_map.mp hr
    rw [str_len]
    exact h x hx) (rowL rows).length
  have : (rowL rows).length = rows.length := List.length_map ..
  rw [this] at s5 s3
  omega
end Tq

/-! ### Tq: drawn texts -/
namespace Tq
open PySem L2 PySem.Spec PyProof.Rows
/-- _law_pick of a text -/
def spPickS : Sp := fun vs H Q _ => ∃ (a l : Addr) (z : Str) (c : Nat), vs = [.ref a, .str z] ∧ c < 4000000 ∧ Strm H a l c ∧ 0 < z.length ∧ z.length < 1000000 ∧
  ∀ (x : Nat) (H' : Hp), x ∈ z.cps.toList → Strm H' a l (c + 1) → Nx a l H H' → Q (.str ⟨#[x]⟩) H'
/-- _law_text -/
def spText : Sp := fun vs H Q _ => ∃ (a l : Addr) (c : Nat), vs = [.ref a] ∧ c < 3000000 ∧ Strm H a l c ∧
  ∀ (rows : List Str) (H' : Hp), rows ≠ [] → rows.length ≤ 5 → (∀ r ∈ rows, r.length ≤ 8 ∧ ∀ x ∈ r.cps.toList, x ≠ 10 ∧ x < 1000) → Strm H' a l (c + 50) → Nx a l H H' → Q (.str (Txt.join "\n" rows)) H'
theorem joinE_mem : ∀ (R : List (List Nat)) (x : Nat), x ∈ TL.joinL [] R → ∃ r ∈ R, x ∈ r
  | [], x, h => nomatch h
  | [p], x, h => ⟨p, .head _, h⟩
  | p :: q :: r, x, h => by
    rcases List.mem_append.mp (show x ∈ p ++ ([] ++ TL.joinL [] (q :: r)) from h) with h | h
    · exact ⟨p, .head _, h⟩
    · obtain ⟨y, hy, hx⟩ := joinE_mem (q :: r) x h
      exact ⟨y, .tail _ hy, hx⟩
theorem joinE_len : ∀ (R : List (List Nat)), (TL.joinL [] R).length = (R.map List.length).sum
  | [] => rfl
  | [p] => by simp [TL.joinL]
  | p :: q :: r => by
    show (p ++ ([] ++ TL.joinL [] (q :: r))).length = _
    rw [List.nil_append, List.length_append, joinE_len (q :: r)]
    simp
theorem ones {cs : List Nat} : (cs.map fun x => ([x] : List Nat).length).sum = cs.length := by
  induction cs with
  | nil => rfl
  | cons c cs ih => rw [List.map_cons, List.sum_cons, ih]; simp; omega
/-- a text of drawn signs -/
theorem join_signs (cs : List Nat) : (Txt.join "" (cs.map fun x => (⟨#[x]⟩ : Str))).length = cs.length ∧ ∀ x ∈ (Txt.join "" (cs.map fun x => (⟨#[x]⟩ : Str))).cps.toList, x ∈ cs := by
  have e : (Txt.join "" (cs.map fun x => (⟨#[x]⟩ : Str))).cps.toList = TL.joinL [] (cs.map fun x => [x]) := by
    rw [join_tl, List.map_map]
    rfl
  constructor
  · rw [← str_len, e, joinE_len, List.map_map]
    exact ones
  · intro x hx
    rw [e] at hx
    obtain ⟨r, hr, hx⟩ := joinE_mem _ x hx
    obtain ⟨y, hy, rfl⟩ := List.mem_map.mp hr
    rw [List.mem_singleton.mp hx]
    exact hy
theorem split_rows {rows : List Str} (hne : rows ≠ []) (h : ∀ r ∈ rows, 10 ∉ r.cps.toList) : Txt.split (Txt.join "\n" rows) "\n" = rows :=
  TL.split_join (y := "\n") (s := 10) (S := []) rfl (by decide +kernel) hne h
end Tq
namespace Tq
open PySem L2 PySem.Spec PyProof.Rows
theorem small_len {i : Int} (h : (-1 ≤ i ∧ i ≤ 20) ∨ (1000000000 ≤ i ∧ i ≤ 1000000020)) : i.natAbs.log2 < 1920 ∧ (toString i : Str).length ≤ 60 := by
  have a1 : ∀ k : Fin 22, ((k : Int) - 1).natAbs.log2 < 1920 ∧ (toString ((k : Int) - 1) : Str).length ≤ 60 := by decide +kernel
  have a2 : ∀ k : Fin 21, ((k : Int) + 1000000000).natAbs.log2 < 1920 ∧ (toString ((k : Int) + 1000000000) : Str).length ≤ 60 := by decide +kernel
  rcases h with ⟨h1, h2⟩ | ⟨h1, h2⟩
  · have := a1 ⟨(i + 1).toNat, by omega⟩
    rw [show (((⟨(i + 1).toNat, by omega⟩ : Fin 22) : Nat) : Int) - 1 = i by show ((i + 1).toNat : Int) - 1 = i; omega] at this
    exact this
  · have := a2 ⟨(i - 1000000000).toNat, by omega⟩
    rw [show (((⟨(i - 1000000000).toNat, by omega⟩ : Fin 21) : Nat) : Int) + 1000000000 = i by show ((i - 1000000000).toNat : Int) + 1000000000 = i; omega] at this
    exact this
theorem rep_small {K : PySem.W.Frag} {H : Hp} {i : Int} {n : Nat} (h : (-1 ≤ i ∧ i ≤ 20) ∨ (1000000000 ≤ i ∧ i ≤ 1000000020)) : Rep K H (.int i) n 60 := rep_int (small_len h).1 (small_len h).2
/-- a small plain datum -/
def Gd (K : PySem.W.Frag) (H : Hp) (v : V) : Prop := ∃ d, Dp K H v d ∧ Plain d 2 60 ∧ d.canLay0 = true
theorem Gd.same {K : PySem.W.Frag} {H H' : Hp} {v : V} (e : Same H H') (h : Gd K H v) : Gd K H' v := let ⟨d, h1, h2⟩ := h; ⟨d, dp_same e d v h1, h2⟩
theorem gd_int {K : PySem.W.Frag} {H : Hp} {i : Int} (h : (-1 ≤ i ∧ i ≤ 20) ∨ (1000000000 ≤ i ∧ i ≤ 1000000020)) : Gd K H (.int i) := by
  obtain ⟨a, b⟩ := small_len h
  exact ⟨.int i, .int i, ⟨decide_eq_true a, rfl, Nat.zero_le _, b⟩, rfl⟩
theorem gd_non {K : PySem.W.Frag} {H : Hp} : Gd K H .non := ⟨.none, .non, ⟨rfl, rfl, Nat.zero_le _, by decide⟩, rfl⟩
theorem gd_bl {K : PySem.W.Frag} {H : Hp} (b : Bool) : Gd K H (.bl b) := ⟨.bool b, .bl b, ⟨rfl, rfl, Nat.zero_le _, by cases b <;> decide⟩, rfl⟩
theorem gd_tup {K : PySem.W.Frag} {H : Hp} {p : Addr} {i : Int} (hp : H p = some (.tup [.int i])) (hi : i = 0 ∨ i = 1) : Gd K H (.ref p) := by
  refine ⟨.tuple [.int i], .tup (.inl (.inl hp)) (.cons (.int i) .nil), ?_, rfl⟩
  rcases hi with rfl | rfl
  · exact ⟨by decide +kernel, rfl, by decide +kernel, by decide +kernel⟩
  · exact ⟨by decide +kernel, rfl, by decide +kernel, by decide +kernel⟩
theorem gd_lst {K : PySem.W.Frag} {H : Hp} {p : Addr} {i : Int} (hp : H p = some (.lst [.int i])) (hi : i = 0 ∨ i = 1) : Gd K H (.ref p) := by
  refine ⟨.list [.int i], .lst (SqL.of hp) (.cons (.int i) .nil), ?_, rfl⟩
  rcases hi with rfl | rfl
  · exact ⟨by decide +kernel, rfl, by decide +kernel, by decide +kernel⟩
  · exact ⟨by decide +kernel, rfl, by decide +kernel, by decide +kernel⟩
theorem gd_str {K : PySem.W.Frag} {H : Hp} {z : Str} (h : z = "0" ∨ z = "1") : Gd K H (.str z) := by
  rcases h with rfl | rfl
  · exact ⟨.str "0", .str _, ⟨rfl, rfl, Nat.zero_le _, by decide +kernel⟩, by decide +kernel⟩
  · exact ⟨.str "1", .str _, ⟨rfl, rfl, Nat.zero_le _, by decide +kernel⟩, by decide +kernel⟩
/-- _law_spot -/
def spSpot (K : PySem.W.Frag) : Sp := fun vs H Q _ => ∃ (a l p : Addr) (c : Nat) (rows : List Str), vs = [.ref a, .ref p] ∧ c < 3000000 ∧ Strm H a l c ∧ SqL K (off a l H) p (rows.map V.str) ∧ rows ≠ [] ∧ rows.length ≤ 5 ∧ (∀ r ∈ rows, r.length ≤ 8) ∧
  ∀ (q : Addr) (v1 v2 : V) (H' : Hp), off a l H' q = some (.tup [v1, v2]) → Gd K (off a l H') v1 → Gd K (off a l H') v2 → Strm H' a l (c + 5) → Nx a l H H' → Q (.ref q) H'
theorem joinN_mem : ∀ (R : List (List Nat)) (x : Nat), x ∈ TL.joinL [10] R → x = 10 ∨ ∃ r ∈ R, x ∈ r
  | [], x, h => nomatch h
  | [p], x, h => .inr ⟨p, .head _, h⟩
  | p :: q :: r, x, h => by
    rcases List.mem_append.mp (show x ∈ p ++ ([10] ++ TL.joinL [10] (q :: r)) from h) with h | h
    · exact .inr ⟨p, .head _, h⟩
    · rcases List.mem_append.mp h with h | h
      · exact .inl (List.mem_singleton.mp h)
      · rcases joinN_mem (q :: r) x h with h | ⟨y, hy, hx⟩
        · exact .inl h
        · exact .inr ⟨y, .tail _ hy, hx⟩
/-- the answers of small rows are plain -/
theorem ans_plain {rows : List Str} {d0 d1 d2 d3 : PyData} (hne : rows ≠ []) (hl : rows.length ≤ 5) (h : ∀ r ∈ rows, r.length ≤ 8 ∧ ∀ x ∈ r.cps.toList, x ≠ 10 ∧ x < 1000) : Plain (ansD (dueR rows d0 d1 d2 d3)) 2 1000 := by
  have hj : ∀ x ∈ (Txt.join "\n" rows).cps.toList, x < 1000 := fun x hx => by
    rw [join_tl] at hx
    rcases joinN_mem _ x hx with e | ⟨r, hr, hx⟩
    · rw [e]; decide
    · obtain ⟨y, hy, rfl⟩ := List.mem_map.mp hr
      exact ((h y hy).2 x hx).2
  have hlen := join_len_le hne (fun r hr => (h r hr).1)
  have hs : ∀ s, dueR rows d0 d1 d2 d3 = some (some s) → (reprText s).length ≤ 900 := fun s e => by
    unfold dueR at e
    split at e
    · cases e
    · split at e
      · split at e
        · split at e
          · have e' := Option.some.inj (Option.some.inj e)
            rw [← e']
            refine Nat.le_trans (PySem.StrLaws.reprText_len _ fun c hc => ?_) ?_
            · have hc' : c ∈ (Txt.join "\n" rows).cps.toList := by
                unfold cutS at hc
                exact List.mem_of_mem_drop (List.mem_of_mem_take hc)
              exact Nat.lt_of_lt_of_le (hj c hc') (by decide)
            · have h45 : rows.length * 9 ≤ 45 := Nat.mul_le_mul_right 9 hl
              refine Nat.le_trans (Nat.add_le_add_right (Nat.mul_le_mul_left 10 (Nat.le_trans (cutS_length _ _ _) (Nat.le_trans hlen h45))) 2) (by decide)
          · cases e
        · cases e
      · cases e
  cases e : dueR rows d0 d1 d2 d3 with
  | none => exact ⟨by decide +kernel, rfl, by decide +kernel, by decide +kernel⟩
  | some o =>
    cases o with
    | none => exact ⟨by decide +kernel, rfl, by decide +kernel, by decide +kernel⟩
    | some s =>
      have hr : Plain (.str s) 1 900 := ⟨rfl, rfl, Nat.zero_le _, hs s e⟩
      have ht : Plain (.str "told") 1 10 := ⟨rfl, rfl, Nat.zero_le _, by decide +kernel⟩
      exact (plain_tuple (PlainAll.cons ht (PlainAll.cons hr (PlainAll.nil (m := 0))))).mono (Nat.le_refl _) (by decide)
theorem gd_pair {K : PySem.W.Frag} {H : Hp} {q : Addr} {u v : V} (hq : H q = some (.tup [u, v])) (h1 : Gd K H u) (h2 : Gd K H v) : ∃ d, Dp K H (.ref q) d ∧ Plain d 3 200 := by
  obtain ⟨d1, a1, b1, _⟩ := h1
  obtain ⟨d2, a2, b2, _⟩ := h2
  exact ⟨.tuple [d1, d2], .tup (.inl (.inl hq)) (.cons a1 (.cons a2 .nil)), (plain_tuple (PlainAll.cons b1 (PlainAll.cons b2 (PlainAll.nil (m := 0))))).mono (Nat.le_refl _) (by decide)⟩
theorem Plain.shown {d : PyData} {n m : Nat} (h : Plain d n m) (hm : m ≤ 1000) : d.shown.length ≤ sizeLine := Nat.le_trans (shown_le d h.nd) (Nat.le_trans h.tx (Nat.le_trans hm (by decide)))
theorem shaped4 {d0 d1 d2 d3 : PyData} {m : Nat} (h0 : Plain d0 2 m) (h1 : Plain d1 2 m) (h2 : Plain d2 2 m) (h3 : Plain d3 2 m) (c0 : d0.canLay0 = true) (c1 : d1.canLay0 = true) (c2 : d2.canLay0 = true) (c3 : d3.canLay0 = true) :
    SeqAt.shaped (.tuple [d0, d1, d2, d3]) = true ∧ SeqAt.shaped (.list [d0, d1, d2, d3]) = true := by
  have hc : PyData.canLayAll0 [d0, d1, d2, d3] = true := by simp [PyData.canLayAll0, c0, c1, c2, c3]
  have hd : PyData.depthAll [d0, d1, d2, d3] ≤ 2 := by
    have := h0.dp
    have := h1.dp
    have := h2.dp
    have := h3.dp
    simp only [PyData.depthAll]
    omega
  constructor
  · unfold SeqAt.shaped
    simp only [PyData.canLay0, hc, PyData.depth, Bool.true_and]
    exact decide_eq_true (by omega)
  · unfold SeqAt.shaped
    simp only [PyData.canLay0, hc, PyData.depth, Bool.true_and]
    exact decide_eq_true (by omega)
end Tq

/-! ### Tq: the tables of kinds read off a text, and what is asked of them as one check -/
namespace Tq
open PySem L2
def txOf : Expr → Option Str
  | .Constant (.str s) _ _ => some s
  | _ => none
def tupOf (defs : List (Str × List Str)) : Expr → List Str
  | .Tuple es _ _ => es.filterMap txOf
  | .Name x _ => (defs.lookup x).getD []
  | _ => []
def dictRows (defs : List (Str × List Str)) : Stmt → List (Str × List Str)
  | .Assign _ (.Dict ks vs _) _ => (ks.zip vs).filterMap fun p => match p.1 with
    | some e => (txOf e).map fun k => (k, tupOf defs p.2)
    | none => none
  | _ => []
def nameRows : Stmt → Str × List Str
  | .Assign [.Name x _] e _ => (x, tupOf [] e)
  | _ => ("", [])
def rowB (r : Str) : Bool := decide (Txt.split r " " = [rowN r, rowW r]) && (decide (r.length + 2 ≤ sizeLine) && ((atI (rowW r).cps.toList (-1)).isSome && decide ((rowW r).length ≤ sizeLine)))
def nodupB : List Str → Bool
  | [] => true
  | x :: xs => !xs.contains x && nodupB xs
theorem nodupB_ok : ∀ {l : List Str}, nodupB l = true → l.Nodup
  | [], _ => List.nodup_nil
  | x :: xs, h => by
    obtain ⟨h1, h2⟩ := Bool.and_eq_true_iff.mp (show (!xs.contains x && nodupB xs) = true from h)
    refine List.nodup_cons.mpr ⟨fun hm => ?_, nodupB_ok h2⟩
    rw [List.contains_iff_mem.mpr hm] at h1
    cases h1
def rowsB (rows : List Str) : Bool := rows.all rowB && (nodupB (rows.map rowN) && (rows.all (fun r => !places.contains (rowN r)) && decide (rows.length ≤ 1000)))
def tabB (tb : List (Str × List Str)) : Bool := tb.all fun p => rowsB p.2
def tbB (t : Tb) : Bool := tabB t.st && (tabB t.ex && (tabB t.pa && (tabB t.pr && (tabB t.pl && (decide (t.rows "Load" = some []) && (nodupB (t.gr.map (·.1)) && decide (t.gr.length ≤ 1000)))))))
theorem rowsB_ok {rows : List Str} (h : rowsB rows = true) : (∀ r ∈ rows, RowOk r) ∧ (rows.map rowN).Nodup ∧ (∀ r ∈ rows, rowN r ∉ places) ∧ rows.length ≤ 1000 := by
  unfold rowsB at h
  simp only [Bool.and_eq_true, decide_eq_true_eq, List.all_eq_true] at h
  obtain ⟨h1, h2, h3, h4⟩ := h
  refine ⟨fun r hr => ?_, nodupB_ok h2, fun r hr hm => ?_, h4⟩
  · have := h1 r hr
    unfold rowB at this
    simp only [Bool.and_eq_true, decide_eq_true_eq] at this
    exact ⟨this.1, this.2.1, this.2.2.1, this.2.2.2⟩
  · have := h3 r hr
    rw [List.contains_iff_mem.mpr hm] at this
    cases this
theorem tabB_ok {tb : List (Str × List Str)} (h : tabB tb = true) {z : Str} {rows : List Str} (e : tb.lookup z = some rows) : rowsB rows = true := by
  unfold tabB at h
  rw [List.all_eq_true] at h
  have key : ∀ {l : List (Str × List Str)}, l.lookup z = some rows → (z, rows) ∈ l := by
    intro l
    induction l with
    | nil => intro q; cases q
    | cons p l ih =>
      intro q
      obtain ⟨k, v⟩ := p
      simp only [List.lookup] at q
      split at q
      · rename_i hk
        have : z = k := by simpa using hk
        subst this
        cases q
        exact .head _
      · exact .tail _ (ih q)
  exact h _ (key e)
theorem tbB_ok {t : Tb} (h : tbB t = true) : TbOk t := by
  unfold tbB at h
  simp only [Bool.and_eq_true, decide_eq_true_eq] at h
  obtain ⟨h1, h2, h3, h4, h5, h6, h7, h8⟩ := h
  refine ⟨fun z rows e => rowsB_ok ?_, h6, nodupB_ok h7, h8⟩
  unfold Tb.rows at e
  split at e
  · rename_i r q; cases e; exact tabB_ok h1 q
  · split at e
    · rename_i r q; cases e; exact tabB_ok h2 q
    · split at e
      · rename_i r q; cases e; exact tabB_ok h3 q
      · split at e
        · rename_i r q; cases e; exact tabB_ok h4 q
        · split at e
          · rename_i r q; cases e; exact tabB_ok h5 q
          · split at e
            · cases e; decide
            · cases e
end Tq


namespace K57
open PySem L2 Tq
def top (i : Nat) : Stmt := PySem.Challenge.pw_treequill_k57_segments.main.body.getD i (.Pass ⟨0, 0, 0, 0⟩)
def inClass (s : Stmt) (j : Nat) : Stmt := match s with
  | .ClassDef _ _ _ b _ _ _ _ _ _ _ => b.getD j (.Pass ⟨0, 0, 0, 0⟩)
  | _ => .Pass ⟨0, 0, 0, 0⟩
abbrev stable_of : Stmt := top 20
abbrev Ntable_of : List Str := ["kind", "group"]
theorem sctable_of : FnScope Ntable_of ["kind"] (defScope stable_of) := ⟨rfl, rfl, rfl, by decide +kernel, rfl, by decide +kernel, by decide +kernel⟩
abbrev ssplit_fields : Stmt := top 21
abbrev Nsplit_fields : List Str := ["kind", "row"]
theorem scsplit_fields : FnScope Nsplit_fields ["kind"] (defScope ssplit_fields) := ⟨rfl, rfl, rfl, by decide +kernel, rfl, by decide +kernel, by decide +kernel⟩
abbrev sfields_of : Stmt := top 26
abbrev Nfields_of : List Str := ["kind", "name", "held"]
theorem scfields_of : FnScope Nfields_of ["kind"] (defScope sfields_of) := ⟨rfl, rfl, rfl, by decide +kernel, rfl, by decide +kernel, by decide +kernel⟩
abbrev sstart_value : Stmt := top 27
abbrev Nstart_value : List Str := ["name", "held"]
theorem scstart_value : FnScope Nstart_value ["name", "held"] (defScope sstart_value) := ⟨rfl, rfl, rfl, by decide +kernel, rfl, by decide +kernel, by decide +kernel⟩
structure Txt (mg : Str → Option Value) : Prop where
  b_int : mg "int" = none
  b_len : mg "len" = none
  b_list : mg "list" = none
  b_tuple : mg "tuple" = none
  b_repr : mg "repr" = none
  b_str : mg "str" = none
  b_any : mg "any" = none
  b_dict : mg "dict" = none
  b_zip : mg "zip" = none
  b_bool : mg "bool" = none
  range : mg "range" = none
  b_isinstance : mg "isinstance" = none
section
variable {P : Program} {w : World} {K : PySem.W.Frag} {mg : Str → Option Value} {base : Heap} {t : Tb} {d1 d2 d3 d4 d5 d6 d7 : Addr}
theorem ok_table {f : Addr} {fd : FuncData} (F : Fun K "table_of" "table_of" stable_of f fd) (T : Txt mg) (G : Kd K w mg t d1 d2 d3 d4 d5 d6 d7) :
    FnG P w K mg base CX0 1 f fd ["kind"] (spTable K t) := by
  refine okG0 F sctable_of (fun vs H Q E h => ?_) (fun cdv A outer s H vs Q E hq hr h => ?_)
  · obtain ⟨v, rfl, _⟩ := h
    rfl
  · obtain ⟨v, rfl, h⟩ := h
    refine ⟨_, (pss_cons (ps_if (pt_not (pt_val (pe_callB call_isi (by rfl) T.b_isinstance (by decide +kernel) (pa_cons (pv 0) (pa_cons (pe_bltn (v := .ty "str") rfl T.b_str (by decide +kernel) rfl) pa_nil)))))
      (pss_one (ps_ret pe_non))
      pss_nil)
      (pss_cons (ps_if (pt_cmpR (op_in_tab G.t1) (pv 0) (pe_glob (v := .ref d1) rfl G.m_STATEMENTS rfl) (by rfl))
      (pss_one (ps_ret (pe_ix (ix_tabR G.t1) (pe_glob (v := .ref d1) rfl G.m_STATEMENTS rfl) (pv 0) (fun _ _ => rfl))))
      pss_nil)
      (pss_cons (ps_if (pt_cmpR (op_in_tab G.t2) (pv 0) (pe_glob (v := .ref d2) rfl G.m_EXPRESSIONS rfl) (by rfl))
      (pss_one (ps_ret (pe_ix (ix_tabR G.t2) (pe_glob (v := .ref d2) rfl G.m_EXPRESSIONS rfl) (pv 0) (fun _ _ => rfl))))
      pss_nil)
      (pss_cons (ps_if (pt_cmpR (op_in_tab G.t3) (pv 0) (pe_glob (v := .ref d3) rfl G.m_PATTERNS rfl) (by rfl))
      (pss_one (ps_ret (pe_ix (ix_tabR G.t3) (pe_glob (v := .ref d3) rfl G.m_PATTERNS rfl) (pv 0) (fun _ _ => rfl))))
      pss_nil)
      (pss_cons (ps_if (pt_cmpR (op_in_tab G.t4) (pv 0) (pe_glob (v := .ref d4) rfl G.m_PARTS rfl) (by rfl))
      (pss_one (ps_ret (pe_ix (ix_tabR G.t4) (pe_glob (v := .ref d4) rfl G.m_PARTS rfl) (pv 0) (fun _ _ => rfl))))
      pss_nil)
      (pss_cons (ps_if (pt_cmpR (op_in_tab G.t5) (pv 0) (pe_glob (v := .ref d5) rfl G.m_PLACELESS rfl) (by rfl))
      (pss_one (ps_ret (pe_ix (ix_tabR G.t5) (pe_glob (v := .ref d5) rfl G.m_PLACELESS rfl) (pv 0) (fun _ _ => rfl))))
      pss_nil)
      (pss_one (ps_ret (pe_ifExp (pt_val (pe_callB (cr_any rfl) (by rfl) T.b_any (by decide +kernel) (pa_cons (pe_lc (own := [("group", 1)]) (by rfl) sctable_of.nd (pi_kd G.t6 (pe_glob (v := .ref d6) rfl G.m_GROUPS rfl)) (blkOk_by (own := [("group", 1)]) (N := Ntable_of) (sc := defScope stable_of) (by decide +kernel)) (fun _ _ _ _ _ => (pg_name (i := 1) sctable_of.nd rfl (Or.inl rfl))) (fun _ _ _ _ _ => pts_nil) (fun _ _ _ _ _ => (pe_cmpR (castOp (K := K) (r := (fun K => rIn K false)) op_in_seq) (pv 0) (pe_ix (castIx (K := K) (r := fun K => rIxTab K d6 t.gr) (ix_tabR G.t6)) (pe_glob (v := .ref d6) rfl G.m_GROUPS rfl) (pv 1) (fun _ _ => rfl)) (by rfl)))) pa_nil))) (pe_tup pa_nil) pe_non))))))))), ?_⟩
    rcases h with ⟨z, rfl, hs, hn⟩ | ⟨ty, hty, hk, hq0⟩
    · refine ⟨_, rfl, _, _, _, _, true, rfl, .ty "str", .base (.str z), kit_ty (by decide +kernel), _, rfl, if0 rfl ?_⟩
      refine ⟨_, rfl, z, rfl, rfl, _, rfl, ?_⟩
      cases e1 : t.st.lookup z with
      | some rows => exact if1 rfl ⟨_, rfl, z, rows, rfl, rfl, e1, fun a ka => hs rows (by unfold Tb.rows; rw [e1]) a H (Same.refl H) (ka.sq H)⟩
      | none =>
      refine if0 rfl ⟨_, rfl, z, rfl, rfl, _, rfl, ?_⟩
      cases e2 : t.ex.lookup z with
      | some rows => exact if1 rfl ⟨_, rfl, z, rows, rfl, rfl, e2, fun a ka => hs rows (by unfold Tb.rows; rw [e1, e2]) a H (Same.refl H) (ka.sq H)⟩
      | none =>
      refine if0 rfl ⟨_, rfl, z, rfl, rfl, _, rfl, ?_⟩
      cases e3 : t.pa.lookup z with
      | some rows => exact if1 rfl ⟨_, rfl, z, rows, rfl, rfl, e3, fun a ka => hs rows (by unfold Tb.rows; rw [e1, e2, e3]) a H (Same.refl H) (ka.sq H)⟩
      | none =>
      refine if0 rfl ⟨_, rfl, z, rfl, rfl, _, rfl, ?_⟩
      cases e4 : t.pr.lookup z with
      | some rows => exact if1 rfl ⟨_, rfl, z, rows, rfl, rfl, e4, fun a ka => hs rows (by unfold Tb.rows; rw [e1, e2, e3, e4]) a H (Same.refl H) (ka.sq H)⟩
      | none =>
      refine if0 rfl ⟨_, rfl, z, rfl, rfl, _, rfl, ?_⟩
      cases e5 : t.pl.lookup z with
      | some rows => exact if1 rfl ⟨_, rfl, z, rows, rfl, rfl, e5, fun a ka => hs rows (by unfold Tb.rows; rw [e1, e2, e3, e4, e5]) a H (Same.refl H) (ka.sq H)⟩
      | none =>
      have er : t.rows z = if (t.gr.any fun g => g.2.contains z) = true then some [] else none := by unfold Tb.rows; rw [e1, e2, e3, e4, e5]
      refine if0 rfl ⟨rfl, fun D hD => ?_⟩
      refine lc_kd (fun i H' => Same H H' ∧ H' D = some (.lst ((t.gr.take i).map fun g => V.bl (g.2.contains z)))) ⟨same_new hD, upd_same⟩ (fun i k H' hi h => ?_) (fun H' h => ?_)
      · obtain ⟨sm, hd⟩ := h
        obtain ⟨rows, g1, g2⟩ := look_at G.ok.gnd hi
        have hlt : i < t.gr.length := (List.getElem?_eq_some_iff.mp g1).1
        refine ⟨rfl, yes ⟨_, rfl, _, rfl, k, rows, rfl, rfl, g2, fun a ka => ⟨a, _, rfl, .inr (ka.sq _), rfl, flat_strs _, _, hd, ?_, ?_, ?_⟩⟩⟩
        · rw [List.length_map, List.length_take]
          have := G.ok.glen
          exact Nat.lt_of_le_of_lt (Nat.le_trans (Nat.min_le_right _ _) this) (by decide)
        · exact fun b o e => by
            rw [upd_ne (fun q => by rw [q, hD] at e; cases e)]
            exact sm b o e
        · rw [upd_same, inV_strs, List.take_add_one, g1, List.map_append]
          rfl
      · obtain ⟨sm, hd⟩ := h
        rw [List.length_map, List.take_length] at hd
        refine ⟨D, t.gr.map fun g => g.2.contains z, rfl, SqL.of (by rw [List.map_map]; exact hd), _, rfl, ?_⟩
        have ea : (t.gr.map fun g => g.2.contains z).any id = t.gr.any fun g => g.2.contains z := by rw [List.any_map]; rfl
        rw [ea]
        cases eb : t.gr.any fun g => g.2.contains z with
        | true =>
          refine if1 rfl ⟨by decide, fun p hp => hs [] (by rw [er, eb]; rfl) p _ (fun b o e => ?_) (.inl (.inl upd_same))⟩
          exact same_new hp b o (sm b o e)
        | false => exact if0 rfl (hn (by rw [er, eb]; rfl) H' sm)
    · refine ⟨_, rfl, _, _, _, _, false, rfl, .ty "str", hty, hk, _, rfl, if1 rfl hq0⟩
end

end K57


namespace K57
open PySem L2 Tq
section
variable {P : Program} {w : World} {K : PySem.W.Frag} {mg : Str → Option Value} {base : Heap} {t : Tb}
theorem ok_split {f : Addr} {fd : FuncData} (F : Fun K "split_fields" "split_fields" ssplit_fields f fd) (T : Txt mg) (G : TbOk t) (Dtable_of : Df P w K mg base CX0 1 "table_of" (spTable K t)) :
    FnG P w K mg base CX0 2 f fd ["kind"] (spSplit t) := by
  refine okG0 F scsplit_fields (fun vs H Q E h => ?_) (fun cdv A outer s H vs Q E hq hr h => ?_)
  · obtain ⟨z, rows, rfl, _⟩ := h
    rfl
  · obtain ⟨z, rows, rfl, hz, h⟩ := h
    refine ⟨_, (pss_one (ps_ret (pe_lc (own := [("row", 1)]) (by rfl) scsplit_fields.nd (pi_tup (pe_df Dtable_of hq hr pass0 (pa_cons (pv 0) pa_nil))) (blkOk_by (own := [("row", 1)]) (N := Nsplit_fields) (sc := defScope ssplit_fields) (by decide +kernel)) (fun _ _ _ _ _ => (pg_name (i := 1) scsplit_fields.nd rfl (Or.inl rfl))) (fun _ _ _ _ _ => pts_nil) (fun _ _ _ _ _ => (pe_callTy (castCall (K := K) (r := rTupOf) call_tuple_of) (by rfl) T.b_tuple (by decide +kernel) (pa_cons (pe_split (pv 1) pe_str) pa_nil)))))), ?_⟩
    refine ⟨_, rfl, V.str z, rfl, .inl ⟨z, rfl, fun rows' hz' a H1 sm hsq => ?_, fun hn => absurd (hz.symm.trans hn) (fun e => nomatch e)⟩⟩
    obtain rfl : rows = rows' := Option.some.inj (hz.symm.trans hz')
    obtain ⟨rok, _, _, rlen⟩ := G.row z rows hz
    refine ⟨a, rfl, ⟨_, hsq⟩, fun D hD => ?_⟩
    refine lc_tup (xs := rows.map V.str) (fun i H' => Same H1 H' ∧ ∃ qs, H' D = some (.lst qs) ∧ qs.length = i ∧ Flds H' qs (rows.take i)) ⟨same_new hD, [], upd_same, rfl, .nil⟩ (fun i H' _ h => sqT_same h.1 hsq) (fun i x H' hi hv => ?_) (fun H' hv => ?_)
    · obtain ⟨sm1, qs, hd, ql, fl⟩ := hv
      obtain ⟨r, hr, rfl⟩ : ∃ r, rows[i]? = some r ∧ V.str r = x := by simpa using hi
      have hlt : i < rows.length := (List.getElem?_eq_some_iff.mp hr).1
      have ro := rok r (List.mem_of_getElem? hr)
      refine ⟨rfl, yes ⟨_, rfl, ⟨r, rfl⟩, r, " ", rfl, rfl, rfl, ro.len, fun p hp => ⟨p, _, rfl, .inl ⟨SqL.of upd_same, fun l hl => ?_⟩⟩⟩⟩
      have hpD : D ≠ p := fun e => by rw [e, hp] at hd; cases hd
      have s2 := same_new (o := .lst ((Txt.split r " ").map V.str)) hp
      generalize upd H' p (.lst ((Txt.split r " ").map V.str)) = H2 at hl s2 ⊢
      have hlD : D ≠ l := fun e => by rw [← e] at hl; rw [s2 D _ hd] at hl; cases hl
      have s3 := same_new (o := .tup ((Txt.split r " ").map V.str)) hl
      have e3 : (upd H2 l (.tup ((Txt.split r " ").map V.str))) l = some (.tup ((Txt.split r " ").map V.str)) := upd_same
      generalize upd H2 l (.tup ((Txt.split r " ").map V.str)) = H3 at s3 e3 ⊢
      have d3 : H3 D = some (.lst qs) := s3 D _ (s2 D _ hd)
      refine ⟨qs, d3, by rw [ql]; exact Nat.lt_of_lt_of_le hlt (Nat.le_trans rlen (by decide)), ?_⟩
      have tp : ∀ b xs, H3 b = some (.tup xs) → (upd H3 D (.lst (qs ++ [V.ref l]))) b = some (.tup xs) := fun b xs e => by
        rw [upd_ne (fun q => by rw [q, d3] at e; cases e)]
        exact e
      refine ⟨fun b o e => ?_, qs ++ [.ref l], upd_same, by simp [ql], ?_⟩
      · rw [upd_ne (fun q => by rw [q, hD] at e; cases e)]
        exact s3 b o (s2 b o (sm1 b o e))
      · rw [List.take_add_one, hr]
        refine Flds.snoc ⟨l, rfl, tp l _ ?_⟩ (Flds.but tp (fl.same (s2.trans s3)))
        rw [e3, ro.two]
        rfl
    · obtain ⟨sm1, qs, hd, ql, fl⟩ := hv
      rw [List.length_map, List.take_length] at fl
      exact h D qs H' (sm.trans sm1) (same_none sm hD) hd fl
theorem ok_fields {f : Addr} {fd : FuncData} (F : Fun K "fields_of" "fields_of" sfields_of f fd) (T : Txt mg) (G : TbOk t) (Dtable_of : Df P w K mg base CX0 1 "table_of" (spTable K t)) (Dsplit_fields : Df P w K mg base CX0 2 "split_fields" (spSplit t)) :
    FnG P w K mg base CX0 3 f fd ["kind"] (spFields t) := by
  refine okG0 F scfields_of (fun vs H Q E h => ?_) (fun cdv A outer s H vs Q E hq hr h => ?_)
  · obtain ⟨z, rows, rfl, _⟩ := h
    rfl
  · obtain ⟨z, rows, rfl, hz, h⟩ := h
    refine ⟨_, (pss_cons (ps_if (pt_cmpR op_isN (pe_df Dtable_of hq hr pass0 (pa_cons (pv 0) pa_nil)) pe_non (nomark _))
      (pss_one L2.ps_never)
      pss_nil)
      (pss_one (ps_ret (pe_callTy call_tuple_of (by rfl) T.b_tuple (by decide +kernel) (pa_cons (pe_lc (own := [("name", 1), ("held", 2)]) (by rfl) scfields_of.nd (pi_list (pe_df Dsplit_fields hq hr pass0 (pa_cons (pv 0) pa_nil))) (blkOk_by (own := [("name", 1), ("held", 2)]) (N := Nfields_of) (sc := defScope sfields_of) (by decide +kernel)) (fun _ _ _ _ _ => (castPG (K := K) (r := fun K => gTup K 2 _) (pg_tup (by rfl) (pgs_cons (pg_name (i := 1) scfields_of.nd rfl (Or.inl rfl)) (pgs_cons (pg_name (i := 2) scfields_of.nd rfl (Or.inl rfl)) pgs_nil))))) (fun _ _ _ _ _ => pts_nil) (fun _ _ _ _ _ => (pv 1))) pa_nil))))), ?_⟩
    refine ⟨_, rfl, V.str z, rfl, .inl ⟨z, rfl, fun rows' hz' a H1 sm hsq => ?_, fun hn => absurd (hz.symm.trans hn) (fun e => nomatch e)⟩⟩
    obtain rfl : rows = rows' := Option.some.inj (hz.symm.trans hz')
    obtain ⟨rok, _, _, rlen⟩ := G.row z rows hz
    refine ⟨rfl, _, rfl, if0 (decide_eq_false (fun e => nomatch e)) ?_⟩
    refine ⟨_, rfl, z, rows, rfl, hz, fun p qs H2 sm2 hp hl fl => ⟨p, rfl, ⟨qs, SqL.of hl⟩, fun D hD => ?_⟩⟩
    refine lc_list (xs := qs) (fun i H' => Same H2 H' ∧ H' D = some (.lst ((rows.take i).map fun r => V.str (rowN r)))) ⟨same_new hD, upd_same⟩ (fun i H' _ h => sqL_same h.1 (SqL.of hl)) (fun i x H' hi hv => ?_) (fun H' hv => ?_)
    · obtain ⟨sm3, hd⟩ := hv
      obtain ⟨r, b, hr, rfl, hb⟩ := fl.get hi
      have hlt : i < rows.length := (List.getElem?_eq_some_iff.mp hr).1
      refine ⟨b, _, rfl, .inl (.inl (sm3 b _ hb)), rfl, _, _, rfl, _, _, rfl, rfl, rfl, yes ⟨_, rfl, _, hd, ?_, ?_, ?_⟩⟩
      · rw [List.length_map, List.length_take]
        exact Nat.lt_of_le_of_lt (Nat.min_le_left _ _) (Nat.lt_of_lt_of_le hlt (Nat.le_trans rlen (by decide)))
      · exact fun c o e => by
          rw [upd_ne (fun q => by rw [q, hD] at e; cases e)]
          exact sm3 c o e
      · rw [upd_same, List.take_add_one, hr, List.map_append]
        rfl
    · obtain ⟨sm3, hd⟩ := hv
      have hn : qs.length = rows.length := Paired.length fl
      rw [hn, List.take_length] at hd
      refine ⟨D, _, rfl, .inl ⟨SqL.of hd, fun l hl => h l _ ?_ (same_none (sm.trans (sm2.trans sm3)) hl) upd_same⟩⟩
      exact (sm.trans (sm2.trans sm3)).trans (same_new hl)
end

end K57

set_option pp.maxSteps 400

namespace K57
open PySem L2 Tq
abbrev sNode___init__ : Stmt := inClass (top 28) 0
abbrev NNode___init__ : List Str := ["self", "kind", "parts", "more", "names", "given", "name", "what"]
theorem scNode___init__ : FnScope NNode___init__ ["self", "kind", "parts", "more"] (defScope sNode___init__) := ⟨rfl, rfl, rfl, by decide +kernel, rfl, by decide +kernel, by decide +kernel⟩
section
variable {P : Program} {w : World} {K : PySem.W.Frag} {mg : Str → Option Value} {base : Heap} {t : Tb} {C : Addr}
theorem ok_start {f : Addr} {fd : FuncData} (F : Fun K "start_value" "start_value" sstart_value f fd) (T : Txt mg) (G : TbOk t) (Dnode : Nd P w K mg base CX0 4 "Node" C "self" "kind" (spInit t C false)) :
    FnG P w K mg base CX0 6 f fd ["name", "held"] (spStart C true) := by
  refine okG0 F scstart_value (fun vs H Q E h => ?_) (fun cdv A outer s H vs Q E hq hr h => ?_)
  · obtain ⟨_, n, h, rfl, _⟩ := h
    rfl
  · obtain ⟨_, n, h, rfl, hl, hz, k⟩ := h
    refine ⟨_, (pss_cons (ps_if (pt_cmpR op_in_str (pe_ix ix_str (pv 1) (pe_un un_neg pe_int) (fun _ _ => rfl)) pe_str (by rfl))
      (pss_one (ps_ret (pe_lst pa_nil)))
      pss_nil)
      (pss_one (ps_ret (pe_ifExp (pt_cmpR op_eq (pv 0) pe_str (nomark _)) (pe_makeW0 Dnode hq hr pass0 (pa_cons pe_str pa_nil)) pe_non)))), ?_⟩
    obtain ⟨c, hc⟩ := Option.isSome_iff_exists.mp hl
    have em : isMany h = !(Builtin.Str.occurrences "*+" ⟨#[c]⟩ 0 ("*+" : Str).length 1).isEmpty := by unfold isMany; rw [hc]
    refine ⟨_, rfl, _, rfl, h, -1, c, rfl, rfl, hz, hc, _, _, rfl, rfl, _, rfl, ?_⟩
    cases hm : isMany h with
    | true =>
      refine if1 (em.symm.trans hm) ⟨by decide, fun p hp => k (.ref p) [p] _ (same_new hp) (.inl ⟨hm, p, rfl, rfl, upd_same⟩) fun a ha => ?_⟩
      rw [List.mem_singleton.mp ha]
      exact hp
    | false =>
      refine if0 (em.symm.trans hm) ⟨_, rfl, rfl, _, rfl, ?_⟩
      by_cases hn : n = "ctx"
      · subst hn
        refine if1 (decide_eq_true rfl) ⟨_, [], rfl, by decide, rfl, fun x dx p d hx hdx nx hp hd px pdx xd ddx dp => ?_⟩
        refine ⟨x, dx, p, d, "Load", [], [], [], rfl, ?_, ?_, upd_same, G.load, fun _ => rfl, Nat.le_refl _, Nat.zero_le _, List.nodup_nil, (fun _ h => nomatch h), fun hh hd' fps H' M => ⟨rfl, ?_⟩⟩
        · rw [upd_ne xd.symm, upd_ne px.symm, upd_same]
        · rw [upd_ne dp.symm, upd_same]
        have sm : Same H (upd (upd (upd (upd H dx (.own x)) x (.ins C dx [])) p (.tup [])) d (.dK (kdOf [] []))) := fun b o e => by
          have ne : ∀ {c : Addr}, H c = none → b ≠ c := fun hc q => by rw [q, hc] at e; cases e
          rw [upd_ne (ne hd), upd_ne (ne hp), upd_ne (ne hx), upd_ne (ne hdx)]
          exact e
        have gx : (upd (upd (upd (upd H dx (.own x)) x (.ins C dx [])) p (.tup [])) d (.dK (kdOf [] []))) x ≠ none := by rw [upd_ne xd.symm, upd_ne px.symm, upd_same]; exact fun e => nomatch e
        have gdx : (upd (upd (upd (upd H dx (.own x)) x (.ins C dx [])) p (.tup [])) d (.dK (kdOf [] []))) dx = some (.own x) := by rw [upd_ne ddx.symm, upd_ne pdx.symm, upd_ne nx, upd_same]
        have h1 : x ≠ hh := fun e => gx (e ▸ M.new)
        have h2 : dx ≠ hh := fun e => by
          have z := M.new
          rw [← e, gdx] at z
          cases z
        have en := M.ents
        cases en
        refine k (.ref x) [x, dx, hh] H' (fun b o e => M.keep b o (sm b o e) (fun q => by rw [q, hx] at e; cases e)) (.inr (.inl ⟨hm, rfl, x, dx, hh, rfl, rfl, by simp [h1, h2, nx.symm], M.keep dx _ gdx nx, M.node, M.held⟩)) fun a ha => ?_
        simp only [List.mem_cons, List.not_mem_nil, or_false] at ha
        rcases ha with e | e | e
        · rw [e]; exact hx
        · rw [e]; exact hdx
        · rw [e]; exact same_none sm M.new
      · refine if0 (decide_eq_false (fun e => hn (by cases e; rfl))) (k .non [] H (Same.refl H) (.inr (.inr ⟨hm, hn, rfl, rfl⟩)) (fun _ h => nomatch h))
theorem ok_init {f : Addr} {fd : FuncData} {d1 d2 d3 d4 d5 d6 d7 : Addr} (F : Fun K "__init__" "Node.__init__" sNode___init__ f fd) (T : Txt mg) (G : Kd K w mg t d1 d2 d3 d4 d5 d6 d7) (N : NdC K C) (b : Bool) (m : Nat) (hm : 3 ≤ m) (Dfields_of : Df P w K mg base CX0 3 "fields_of" (spFields t))
    (Dsplit_fields : Df P w K mg base CX0 2 "split_fields" (spSplit t)) (Dstart_value : Df P w K mg base CX0 m "start_value" (spStart C b)) :
    FnKw P w K mg base CX0 (m + 1) f ["self", "kind"] (spInit t C b) := by
  refine okKw0 F rfl scNode___init__ (by decide) (fun cdv A outer s H vs Q E hq hr h => ?_)
  obtain ⟨x, dx, p, d, z, rows, rest, kd, rfl, hx, hp, hd, hz, hb, hl, kl, knd, kin, k⟩ := h
  refine ⟨_, (pss_cons (ps_set (i := 4) scNode___init__.nd rfl (Or.inl rfl) (pe_df Dfields_of hq hr pass0 (pa_cons (pv 1) pa_nil)))
      (pss_cons (ps_if (pt_cmpR op_gt (pe_callB call_len_seq (by rfl) T.b_len (by decide +kernel) (pa_cons (pv 2) pa_nil)) (pe_callB call_len_seq (by rfl) T.b_len (by decide +kernel) (pa_cons (pv 4) pa_nil)) (nomark _))
      (pss_one L2.ps_never)
      pss_nil)
      (pss_cons (ps_set (i := 5) scNode___init__.nd rfl (Or.inl rfl) (pe_dictZip rfl rfl T.b_zip rfl T.b_dict (pa_cons (pv 4) (pa_cons (pv 2) pa_nil))))
      (pss_cons (ps_lock (ps_for PassesOwn.never rfl (pi_keys (pv 3)) (pg_name (i := 6) scNode___init__.nd rfl (Or.inl rfl))
      (pss_cons (ps_if (PW.pt (pw_or (pt_cmpR op_notIn_seq (pv 6) (pe_op op_catA (pv 4) (pe_glob (v := .ref d7) rfl G.m_PLACE rfl)) (by rfl)) (pw_or1 (pt_cmp (pc_din (hu_of hr) (pv 6) (pv 5))))))
      (pss_one L2.ps_never)
      pss_nil)
      (pss_one (ps_dput (hu_of hr) (pv 5) (pv 6) (pe_dget (hu_of hr) (pv 3) (pv 6) (fun _ _ => rfl)) rfl)))))
      (pss_cons (ps_fld (pv 0) (pv 1) rfl)
      (pss_cons (ps_fld (pv 0) pe_dnewK rfl)
      (pss_cons (ps_for PassesOwn.never rfl (pi_list (pe_df Dsplit_fields hq hr pass0 (pa_cons (pv 1) pa_nil))) (pg_tup (by rfl) (pgs_cons (pg_name (i := 6) scNode___init__.nd rfl (Or.inl rfl)) (pgs_cons (pg_name (i := 7) scNode___init__.nd rfl (Or.inl rfl)) pgs_nil)))
      (pss_one (ps_dput (hu_of hr) (pe_fld (pv 0) rfl) (pv 6) (pe_ifExp (pt_cmp (pc_din (hu_of hr) (pv 6) (pv 5))) (pe_dget (hu_of hr) (pv 5) (pv 6) (fun _ _ => rfl)) (pe_df Dstart_value hq hr pass0 (pa_cons (pv 6) (pa_cons (pv 7) pa_nil)))) rfl)))
      (pss_cons (ps_fld (pv 0) (pe_dget1 (hu_of hr) (pv 5) pe_str ⟨rfl, rfl, rfl, rfl⟩) rfl)
      (pss_cons (ps_fld (pv 0) (pe_dget1 (hu_of hr) (pv 5) pe_str ⟨rfl, rfl, rfl, rfl⟩) rfl)
      (pss_cons (ps_fld (pv 0) (pe_dget1 (hu_of hr) (pv 5) pe_str ⟨rfl, rfl, rfl, rfl⟩) rfl)
      (pss_one (ps_fld (pv 0) (pe_dget1 (hu_of hr) (pv 5) pe_str ⟨rfl, rfl, rfl, rfl⟩) rfl)))))))))))), ?_⟩
  obtain ⟨rok, rnd, rpl, rlen⟩ := G.ok.row z rows hz
  have en : (rows.map fun r => V.str (rowN r)) = (rows.map rowN).map V.str := by rw [List.map_map]; rfl
  -- names
  refine ⟨_, rfl, z, rows, rfl, hz, fun pn H1 sm1 hpn0 hpn => nm ?_⟩
  dsimp only
  rw [en] at hpn
  refine ⟨_, rfl, p, rest, rfl, .inr (.inl (.inl (sm1 p _ hp))), _, rfl, pn, _, rfl, .inr (.inl (.inl hpn)), _, _, rfl, rfl, _, rfl, if0 (decide_eq_false ?_) ?_⟩
  · rw [List.length_map, List.length_map]
    omega
  -- given
  refine ⟨_, rfl, _, rfl, pn, p, rows.map rowN, rest, rfl, .inl (.inl hpn), .inl (.inl (sm1 p _ hp)), fun g hg => nm ?_⟩
  dsimp only
  have kk : (kdOf (rows.map rowN) rest).map (·.1) = ((rows.map rowN).take rest.length).map Sum.inr := kdOf_keys (by rw [List.length_map]; exact hl)
  have gnd : ((kdOf (rows.map rowN) rest ++ kd).map (·.1)).Nodup := by
    rw [List.map_append, kk, List.nodup_append]
    refine ⟨List.Pairwise.map Sum.inr (fun _ _ h e => h (Sum.inr.inj e)) (rnd.sublist (List.take_sublist _ _)), knd, fun a ha b hb e => ?_⟩
    obtain ⟨n, e1, _, e3⟩ := kin b hb
    obtain ⟨n', hn', e4⟩ := List.mem_map.mp ha
    have : n' = n := Sum.inr.inj (e4.trans (e.trans e1))
    exact e3 (this ▸ hn')
  have gnd0 : ((kdOf (rows.map rowN) rest).map (·.1)).Nodup := by
    rw [List.map_append, List.nodup_append] at gnd
    exact gnd.1
  rw [mergeK_new (by rw [List.nil_append]; exact gnd0), List.nil_append]
  have sm2 := same_new (o := .dK (kdOf (rows.map rowN) rest)) hg
  have hg2 : (upd H1 g (.dK (kdOf (rows.map rowN) rest))) g = some (.dK (kdOf (rows.map rowN) rest)) := upd_same
  generalize upd H1 g (.dK (kdOf (rows.map rowN) rest)) = H2 at sm2 hg2 ⊢
  have s02 := sm1.trans sm2
  have hgH : H g = none := same_none sm1 hg
  have hgd : g ≠ d := fun e => by rw [e, hd] at hgH; cases hgH
  have hgx : g ≠ x := fun e => by rw [e, hx] at hgH; cases hgH
  have hpng : pn ≠ g := fun e => by rw [e, hg] at hpn; cases hpn
  have hpnd : pn ≠ d := fun e => by rw [e, hd] at hpn0; cases hpn0
  -- the keywords
  refine ⟨d, .dK kd, s02 d _ hd, trivial, fun od => ⟨_, rfl, d, od, rfl, .inl ⟨kd, upd_same, ?_⟩⟩⟩
  refine for_it walk_keys (fun i σ' H' => (∃ s6, σ' = [some (.ref x), some (.str z), some (.ref p), some (.ref d), some (.ref pn), some (.ref g), s6, none]) ∧ H' d = some (.frz od (.dK kd)) ∧ H' g = some (.dK (kdOf (rows.map rowN) rest ++ kd.take i)) ∧
    (∀ b o, H2 b = some o → b ≠ g → b ≠ d → H' b = some o)) ⟨⟨none, rfl⟩, upd_same, ?_, fun b o e _ ne => by rw [upd_ne ne]; exact e⟩ (fun _ _ _ _ h => h.2.1) (fun i y σ' H' H'' hi pv hy => ?_) (fun σ' H' pv => ?_)
  · rw [upd_ne hgd, hg2, List.take_zero, List.append_nil]
  · obtain ⟨⟨s6, rfl⟩, hdf, hgf, kp⟩ := pv
    obtain ⟨rfl, k', v', hk, rfl⟩ := hy
    obtain ⟨n, rfl, n1, n2⟩ := kin k' (List.mem_map.mpr ⟨_, List.mem_of_getElem? hk, rfl⟩)
    refine nm ?_
    have sqp : SqT K H'' pn ((rows.map rowN).map V.str) := .inl (.inl (kp pn _ (sm2 pn _ hpn) hpng hpnd))
    refine ⟨_, rfl, _, rfl, ?_⟩
    simp only [tC]
    refine catA_to sqp (G.t7.sq _) ?_ fun q H3 sm3 sq3 => ?_
    · rw [List.length_map, List.length_map, List.length_map]
      exact Nat.le_trans (Nat.add_le_add_right rlen 4) (by decide)
    rw [← List.map_append] at sq3
    refine ⟨q, _, rfl, .inr sq3, rfl, flat_strs _, _, rfl, if0 ?_ ?_⟩
    · show (!inV (V.str n) _) = false
      rw [inV_strs, List.contains_iff_mem.mpr n1]
      rfl
    have nin : (Sum.inr n : Key) ∉ (kdOf (rows.map rowN) rest ++ kd.take i).map (·.1) := by
      have hlt : i < kd.length := (List.getElem?_eq_some_iff.mp hk).1
      have e : kdOf (rows.map rowN) rest ++ kd = (kdOf (rows.map rowN) rest ++ kd.take i) ++ kd.drop i := by rw [List.append_assoc, List.take_append_drop]
      rw [e, List.map_append, List.nodup_append] at gnd
      refine fun hm => gnd.2.2 _ hm (Sum.inr n) ?_ rfl
      exact List.mem_map.mpr ⟨(Sum.inr n, v'), by rw [List.mem_drop_iff_getElem]; exact ⟨0, by simpa using hlt, by simpa using (List.getElem?_eq_some_iff.mp hk).2⟩, rfl⟩
    refine ⟨_, rfl, _, rfl, g, none, rfl, .inl ⟨_, Sum.inr n, .inl (sm3 g _ hgf), rfl, (valV_none nin).symm⟩, _, rfl, if0 rfl ?_⟩
    have hlen : (kdOf (rows.map rowN) rest ++ kd.take i).length < sizeLine := by
      rw [List.length_append, List.length_take, List.length_zip, List.length_map, List.length_map]
      exact Nat.lt_of_le_of_lt (Nat.add_le_add (Nat.le_trans (Nat.min_le_left _ _) rlen) (Nat.le_trans (Nat.min_le_right _ _) kl)) (by decide)
    refine ⟨_, rfl, _, rfl, d, v', rfl, .inl ⟨kd, Sum.inr n, .inr ⟨od, sm3 d _ hdf⟩, rfl, (valV_at knd hk).symm⟩, _, rfl, _, rfl, g, _, rfl, .inl ⟨_, Sum.inr n, sm3 g _ hgf, rfl, hlen, rfl⟩, ?_⟩
    refine ⟨⟨_, rfl⟩, ?_, ?_, fun b o e n1 n2 => ?_⟩
    · rw [upd_ne hgd.symm]
      exact sm3 d _ hdf
    · rw [upd_same, putK_new nin, List.take_add_one, hk, List.append_assoc]
      rfl
    · rw [upd_ne n1]
      exact sm3 b o (kp b o e n1 n2)
  obtain ⟨⟨s6, rfl⟩, hdf, hgf, kp⟩ := pv
  refine ⟨hdf, ?_⟩
  rw [List.take_length] at hgf
  obtain ⟨given, eg⟩ : ∃ given, given = kdOf (rows.map rowN) rest ++ kd := ⟨_, rfl⟩
  rw [← eg] at hgf gnd k
  have k3 : ∀ b o, H b = some o → (upd H' d (.dK kd)) b = some o := fun b o e => by
    by_cases hbd : b = d
    · subst hbd
      rw [upd_same]
      exact hd.symm.trans e
    · rw [upd_ne hbd]
      exact kp b o (s02 b o e) (fun q => by rw [q, hgH] at e; cases e) hbd
  have hg3 : (upd H' d (.dK kd)) g = some (.dK given) := by rw [upd_ne hgd]; exact hgf
  generalize upd H' d (.dK kd) = H3 at k3 hg3 ⊢
  -- kind, held
  refine ⟨_, rfl, _, rfl, x, C, dx, [], rfl, k3 x _ hx, N.cls, N.no _ (by simp), by decide, ?_⟩
  refine fun hh hhn => ⟨_, rfl, x, C, dx, putF "kind" (.str z) [], rfl, ?_, N.cls, N.no _ (by simp), (by show 1 < 1000; decide), ?_⟩
  · rw [upd_ne (fun e => by rw [← e, upd_same] at hhn; cases hhn), upd_same]
  have hxh : hh ≠ x := fun e => by rw [e, upd_same] at hhn; cases hhn
  have hh3 : H3 hh = none := by rw [upd_ne hxh] at hhn; exact hhn
  obtain ⟨H5, e5⟩ : ∃ H5, H5 = upd (upd (upd H3 x (.ins C dx (putF "kind" (.str z) []))) hh (.dK [])) x (.ins C dx (putF "held" (.ref hh) (putF "kind" (.str z) []))) := ⟨_, rfl⟩
  rw [← e5]
  have hx5 : H5 x = some (.ins C dx (putF "held" (.ref hh) (putF "kind" (.str z) []))) := by rw [e5, upd_same]
  have hh5 : H5 hh = some (.dK []) := by rw [e5, upd_ne hxh, upd_same]
  have k5 : ∀ b o, H3 b = some o → b ≠ x → H5 b = some o := fun b o e n1 => by
    rw [e5, upd_ne n1, upd_ne (fun q => by rw [q, hh3] at e; cases e), upd_ne n1]
    exact e
  clear e5 hhn
  -- the fields
  refine ⟨_, rfl, z, rows, rfl, hz, fun pq qs H6 sm6 hpq hlst fl => ⟨pq, rfl, ⟨qs, SqL.of hlst⟩, ?_⟩⟩
  have hx6 := sm6 x _ hx5
  have hh6 := sm6 hh _ hh5
  have hg6 := sm6 g _ (k5 g _ hg3 hgx)
  have hgh : g ≠ hh := fun e => by rw [e, hh3] at hg3; cases hg3
  refine for_list (K := K) (xs := qs) (fun i σ' H' => (∃ s6 s7, σ' = [some (.ref x), some (.str z), some (.ref p), some (.ref d), some (.ref pn), some (.ref g), s6, s7]) ∧ (∀ b o, H6 b = some o → b ≠ hh → H' b = some o) ∧
    ∃ hl fps, H' hh = some (.dK hl) ∧ Ents C H' given (rows.take i) hl fps ∧ fps.flatten.Nodup ∧ ∀ a ∈ fps.flatten, H6 a = none) ⟨⟨s6, none, rfl⟩, fun b o e _ => e, [], [], hh6, .nil, List.nodup_nil, fun _ h => nomatch h⟩
    (fun i σ' H' _ h => SqL.of (h.2.1 pq _ hlst (fun e => by rw [e, hh6] at hlst; cases hlst))) (fun i q σ' H' hi pv => ?_) (fun σ' H' pv => ?_)
  · obtain ⟨⟨s6, s7, rfl⟩, kp, hl, fps, hhH, ents, fnd, fnew⟩ := pv
    obtain ⟨r, b', hr, rfl, hb'⟩ := fl.get hi
    have hlt : i < rows.length := (List.getElem?_eq_some_iff.mp hr).1
    have ro := rok r (List.mem_of_getElem? hr)
    have gH := kp g _ hg6 hgh
    have xH := kp x _ hx6 hxh.symm
    have keys : hl.map (·.1) = (rows.take i).map fun r => Sum.inr (rowN r) := ents.keys
    have nin : (Sum.inr (rowN r) : Key) ∉ hl.map (·.1) := by
      rw [keys]
      intro hm
      obtain ⟨r', hr', e⟩ := List.mem_map.mp hm
      have e' : rowN r' = rowN r := Sum.inr.inj e
      have sp : rows.map rowN = (rows.take i).map rowN ++ (rows.drop i).map rowN := by rw [← List.map_append, List.take_append_drop]
      rw [sp, List.nodup_append] at rnd
      refine rnd.2.2 _ (List.mem_map.mpr ⟨r', hr', rfl⟩) (rowN r) (List.mem_map.mpr ⟨r, ?_, rfl⟩) e'
      rw [List.mem_drop_iff_getElem]
      exact ⟨0, by simpa using hlt, by simpa using (List.getElem?_eq_some_iff.mp hr).2⟩
    have hlen : hl.length < sizeLine := by
      have := congrArg List.length keys
      rw [List.length_map, List.length_map, List.length_take] at this
      rw [this]
      exact Nat.lt_of_le_of_lt (Nat.le_trans (Nat.min_le_right _ _) rlen) (by decide)
    have et : rows.take (i + 1) = rows.take i ++ [r] := by rw [List.take_add_one, hr]; rfl
    refine ⟨b', _, rfl, .inl (.inl (kp b' _ hb' (fun e => by rw [e, hh6] at hb'; cases hb'))), rfl, _, _, rfl, _, _, rfl, rfl, ?_⟩
    refine ⟨_, rfl, _, rfl, g, valV given (Sum.inr (rowN r)), rfl, .inl ⟨given, Sum.inr (rowN r), .inl gH, rfl, rfl⟩, _, rfl, ?_⟩
    cases ev : valV given (Sum.inr (rowN r)) with
    | some v =>
      refine if1 rfl ⟨_, rfl, _, rfl, g, v, rfl, .inl ⟨given, Sum.inr (rowN r), .inl gH, rfl, ev.symm⟩, _, rfl, x, C, dx, _, _, rfl, xH, N.cls, N.no _ (by simp), rfl, _, rfl, hh, _, rfl, .inl ⟨hl, Sum.inr (rowN r), hhH, rfl, hlen, rfl⟩, ?_⟩
      refine ⟨⟨_, _, rfl⟩, fun b o e n1 => by rw [upd_ne n1]; exact kp b o e n1, hl ++ [(Sum.inr (rowN r), v)], fps ++ [[]], by rw [upd_same, putK_new nin], ?_, by simpa using fnd, by simpa using fnew⟩
      rw [et]
      refine Ents.snoc ⟨rfl, .inl ⟨ev, rfl⟩⟩ (ents.same fun a o ha e => ?_)
      rw [upd_ne (fun q => by have := fnew a ha; rw [q, hh6] at this; cases this)]
      exact e
    | none =>
      have hbt : b = true := by
        cases hb2 : b with
        | true => rfl
        | false => rw [hb hb2] at hlt; exact absurd hlt (Nat.not_lt_zero _)
      refine if0 rfl ⟨_, rfl, _, rfl, hbt, rowN r, rowW r, rfl, ro.last, ro.wlen, fun v fp H7 sm7 sv nw => ?_⟩
      have hh7 := sm7 hh _ hhH
      refine ⟨_, rfl, x, C, dx, _, _, rfl, sm7 x _ xH, N.cls, N.no _ (by simp), rfl, _, rfl, hh, _, rfl, .inl ⟨hl, Sum.inr (rowN r), hh7, rfl, hlen, rfl⟩, ?_⟩
      have neh : ∀ a ∈ fps.flatten ++ fp, a ≠ hh := fun a ha q => by
        rcases List.mem_append.mp ha with ha | ha
        · have := fnew a ha
          rw [q, hh6] at this
          cases this
        · have := nw a ha
          rw [q, hhH] at this
          cases this
      refine ⟨⟨_, _, rfl⟩, fun b o e n1 => by rw [upd_ne n1]; exact sm7 b o (kp b o e n1), hl ++ [(Sum.inr (rowN r), v)], fps ++ [fp], by rw [upd_same, putK_new nin], ?_, ?_, ?_⟩
      · rw [et]
        refine Ents.snoc ⟨rfl, .inr ⟨ev, sv.same fun a o ha e => ?_⟩⟩ (ents.same fun a o ha e => ?_)
        · rw [upd_ne (neh a (List.mem_append_right _ ha))]
          exact e
        · rw [upd_ne (neh a (List.mem_append_left _ ha))]
          exact sm7 a o e
      · rw [List.flatten_append, List.nodup_append]
        refine ⟨fnd, by simpa using sv.nodup, fun a ha c hc e => ?_⟩
        exact ents.dom ha (e ▸ nw c (by simpa using hc))
      · intro a ha
        rw [List.flatten_append] at ha
        rcases List.mem_append.mp ha with ha | ha
        · exact fnew a ha
        · have ha' : a ∈ fp := by simpa using ha
          have := nw a ha'
          cases e6 : H6 a with
          | none => rfl
          | some o => rw [kp a o e6 (neh a (List.mem_append_right _ ha'))] at this; cases this
  obtain ⟨⟨s6, s7, rfl⟩, kp, hl, fps, hhH, ents, fnd, fnew⟩ := pv
  rw [(Paired.length fl : qs.length = rows.length), List.take_length] at ents
  have gH := kp g _ hg6 hgh
  have xH := kp x _ hx6 hxh.symm
  have sg : ∀ (Hc : Hp) (fs : List (Str × V)), Hc g = some (.dK given) → (upd Hc x (.ins C dx fs)) g = some (.dK given) := fun Hc fs e => by rw [upd_ne hgx]; exact e
  refine ⟨_, rfl, g, rfl, .inl ⟨given, .inl gH⟩, valV given (Sum.inr "lineno"), .inl ⟨given, Sum.inr "lineno", .inl gH, rfl, rfl⟩, _, rfl, x, C, dx, _, rfl, xH, N.cls, N.no _ (by simp), (by show 2 < 1000; decide), ?_⟩
  have g1 := sg _ (putF "lineno" ((valV given (Sum.inr "lineno")).getD .non) (putF "held" (.ref hh) (putF "kind" (.str z) []))) gH
  refine ⟨_, rfl, g, rfl, .inl ⟨given, .inl g1⟩, valV given (Sum.inr "col_offset"), .inl ⟨given, Sum.inr "col_offset", .inl g1, rfl, rfl⟩, _, rfl, x, C, dx, _, rfl, upd_same, N.cls, N.no _ (by simp), (by show 3 < 1000; decide), ?_⟩
  have g2 := sg _ (putF "col_offset" ((valV given (Sum.inr "col_offset")).getD .non) (putF "lineno" ((valV given (Sum.inr "lineno")).getD .non) (putF "held" (.ref hh) (putF "kind" (.str z) [])))) g1
  refine ⟨_, rfl, g, rfl, .inl ⟨given, .inl g2⟩, valV given (Sum.inr "end_lineno"), .inl ⟨given, Sum.inr "end_lineno", .inl g2, rfl, rfl⟩, _, rfl, x, C, dx, _, rfl, upd_same, N.cls, N.no _ (by simp), (by show 4 < 1000; decide), ?_⟩
  have g3 := sg _ (putF "end_lineno" ((valV given (Sum.inr "end_lineno")).getD .non) (putF "col_offset" ((valV given (Sum.inr "col_offset")).getD .non) (putF "lineno" ((valV given (Sum.inr "lineno")).getD .non) (putF "held" (.ref hh) (putF "kind" (.str z) []))))) g2
  refine ⟨_, rfl, g, rfl, .inl ⟨given, .inl g3⟩, valV given (Sum.inr "end_col_offset"), .inl ⟨given, Sum.inr "end_col_offset", .inl g3, rfl, rfl⟩, _, rfl, x, C, dx, _, rfl, upd_same, N.cls, N.no _ (by simp), (by show 5 < 1000; decide), ?_⟩
  refine k hh hl fps _ ⟨fun b o e n1 => ?_, ?_, ?_, ?_, ?_, fnd, fun a ha => ⟨?_, ?_⟩⟩
  · rw [upd_ne n1, upd_ne n1, upd_ne n1, upd_ne n1]
    exact kp b o (sm6 b o (k5 b o (k3 b o e) n1)) (fun q => by have := k3 b o e; rw [q, hh3] at this; cases this)
  · cases e0 : H hh with
    | none => rfl
    | some o => rw [k3 hh o e0] at hh3; cases hh3
  · rw [upd_ne hxh, upd_ne hxh, upd_ne hxh, upd_ne hxh]
    exact hhH
  · rw [upd_same]
    rfl
  · refine ents.same fun a o ha e => ?_
    have ne : a ≠ x := fun q => by have := fnew a ha; rw [q, hx6] at this; cases this
    rw [upd_ne ne, upd_ne ne, upd_ne ne, upd_ne ne]
    exact e
  · have := fnew a ha
    cases e0 : H a with
    | none => rfl
    | some o =>
      have ne : a ≠ x := fun q => by rw [q, hx6] at this; cases this
      rw [sm6 a o (k5 a o (k3 a o e0) ne)] at this
      cases this
  · intro q
    have := fnew a ha
    rw [q, hh6] at this
    cases this
end

end K57

set_option pp.maxSteps 600

namespace K57
open PySem L2 Tq
abbrev sis_integer : Stmt := top 23
abbrev Nis_integer : List Str := ["thing"]
theorem scis_integer : FnScope Nis_integer ["thing"] (defScope sis_integer) := ⟨rfl, rfl, rfl, by decide +kernel, rfl, by decide +kernel, by decide +kernel⟩
abbrev schecked_node : Stmt := top 29
abbrev Nchecked_node : List Str := ["thing"]
theorem scchecked_node : FnScope Nchecked_node ["thing"] (defScope schecked_node) := ⟨rfl, rfl, rfl, by decide +kernel, rfl, by decide +kernel, by decide +kernel⟩
abbrev splace_of : Stmt := top 31
abbrev Nplace_of : List Str := ["node"]
theorem scplace_of : FnScope Nplace_of ["node"] (defScope splace_of) := ⟨rfl, rfl, rfl, by decide +kernel, rfl, by decide +kernel, by decide +kernel⟩
abbrev sis_place : Stmt := top 32
abbrev Nis_place : List Str := ["lines", "line", "column"]
theorem scis_place : FnScope Nis_place ["lines", "line", "column"] (defScope sis_place) := ⟨rfl, rfl, rfl, by decide +kernel, rfl, by decide +kernel, by decide +kernel⟩
abbrev ssource_segment : Stmt := top 33
abbrev Nsource_segment : List Str := ["text", "node", "place", "lines", "part"]
theorem scsource_segment : FnScope Nsource_segment ["text", "node"] (defScope ssource_segment) := ⟨rfl, rfl, rfl, by decide +kernel, rfl, by decide +kernel, by decide +kernel⟩
section
variable {P : Program} {w : World} {K : PySem.W.Frag} {mg : Str → Option Value} {base : Heap} {C CP CN TE : Addr}
theorem ok_isint {f : Addr} {fd : FuncData} (F : Fun K "is_integer" "is_integer" sis_integer f fd) (T : Txt mg) : FnG P w K mg base CX0 1 f fd ["thing"] (spInt K) := by
  refine okG0 F scis_integer (fun vs H Q E h => ?_) (fun cdv A outer s H vs Q E hq hr h => ?_)
  · obtain ⟨v, d, rfl, _⟩ := h
    rfl
  · obtain ⟨v, d, rfl, hd, k⟩ := h
    refine ⟨_, (pss_one (ps_ret (pe_and (pe_callB call_isi (by rfl) T.b_isinstance (by decide +kernel) (pa_cons (pv 0) (pa_cons (pe_bltn (v := .ty "int") rfl T.b_int (by decide +kernel) rfl) pa_nil))) (pe_one (pe_not (pe_callB call_isi (by rfl) T.b_isinstance (by decide +kernel) (pa_cons (pv 0) (pa_cons (pe_bltn (v := .ty "bool") rfl T.b_bool (by decide +kernel) rfl) pa_nil)))))))), ?_⟩
    refine ⟨_, rfl, _, _, _, _, _, rfl, .ty "int", dp_ty hd, dp_int hd, _, rfl, ?_⟩
    cases hd with
    | non => exact if0 rfl k
    | bl b => exact if1 rfl ⟨_, rfl, _, _, _, _, _, rfl, .ty "bool", dp_ty (.bl b), dp_bool (K := K) (H := H) (.bl b), _, rfl, k⟩
    | int i => exact if1 rfl ⟨_, rfl, _, _, _, _, _, rfl, .ty "bool", dp_ty (.int i), dp_bool (K := K) (H := H) (.int i), _, rfl, k⟩
    | str x => exact if0 rfl k
    | lst _ _ => exact if0 rfl k
    | tup _ _ => exact if0 rfl k
theorem ok_isplace {f : Addr} {fd : FuncData} (F : Fun K "is_place" "is_place" sis_place f fd) (T : Txt mg) (Dis_integer : Df P w K mg base CX0 1 "is_integer" (spInt K)) : FnG P w K mg base CX0 2 f fd ["lines", "line", "column"] (spPlace K) := by
  refine okG0 F scis_place (fun vs H Q E h => ?_) (fun cdv A outer s H vs Q E hq hr h => ?_)
  · obtain ⟨p, v1, v2, rows, d1, d2, rfl, _⟩ := h
    rfl
  · obtain ⟨p, v1, v2, rows, d1, d2, rfl, hp, h1, h2, hz, k⟩ := h
    refine ⟨_, (pss_cons (ps_if (PW.pt (pw_or (pt_not (pt_val (pe_df Dis_integer hq hr pass0 (pa_cons (pv 1) pa_nil)))) (pw_or (pt_not (pt_val (pe_df Dis_integer hq hr pass0 (pa_cons (pv 2) pa_nil)))) (pw_or1 (pt_not (pt_chain op_le op_le pe_int (pv 1) (pe_callB call_len_seq (by rfl) T.b_len (by decide +kernel) (pa_cons (pv 0) pa_nil))))))))
      (pss_one (ps_ret pe_bl))
      pss_nil)
      (pss_one (ps_ret (pe_chain op_le op_le pe_int (pv 2) (pe_callB call_len (by rfl) T.b_len (by decide +kernel) (pa_cons (pe_ix ix_list (pv 0) (pe_op op_sub (pv 1) pe_int) (fun _ _ => rfl)) pa_nil)))))), ?_⟩
    refine ⟨_, rfl, v1, d1, rfl, h1, _, rfl, ?_⟩
    cases i1 : isI d1 with
    | false =>
      have e : isPl rows d1 d2 = false := by cases d1 <;> first | rfl | cases i1
      rw [e] at k
      exact if1 rfl (if1 rfl k)
    | true =>
    refine if0 rfl ⟨_, rfl, v2, d2, rfl, h2, _, rfl, ?_⟩
    cases i2 : isI d2 with
    | false =>
      have e : isPl rows d1 d2 = false := by cases d1 <;> cases d2 <;> first | rfl | cases i2
      rw [e] at k
      exact if1 rfl (if1 rfl k)
    | true =>
    refine if0 rfl ?_
    obtain ⟨a, rfl⟩ : ∃ a, d1 = .int a := by cases d1 <;> first | exact ⟨_, rfl⟩ | cases i1
    obtain ⟨b, rfl⟩ : ∃ b, d2 = .int b := by cases d2 <;> first | exact ⟨_, rfl⟩ | cases i2
    cases h1
    cases h2
    refine ⟨_, rfl, _, _, rfl, rfl, _, rfl, ?_⟩
    by_cases c1 : (1 : Int) ≤ a
    · refine if1 (decide_eq_true c1) ⟨_, rfl, p, _, rfl, .inl hp, _, _, rfl, rfl, _, rfl, ?_⟩
      rw [List.length_map]
      by_cases c2 : a ≤ (rows.length : Int)
      · refine if0 (by rw [decide_eq_true c2]; rfl) ?_
        refine ⟨_, rfl, _, _, rfl, rfl, _, rfl, ?_⟩
        obtain ⟨r, hr⟩ : ∃ r, rows[(a - 1).toNat]? = some r := ⟨_, List.getElem?_eq_getElem (by omega)⟩
        have ek : isPl rows (.int a) (.int b) = (decide (0 ≤ b) && decide (b ≤ (r.length : Int))) := by
          show (decide (1 ≤ a) && (decide (a ≤ (rows.length : Int)) && (decide (0 ≤ b) && decide (b ≤ (((rows[(a - 1).toNat]?).getD "").length : Int))))) = _
          rw [decide_eq_true c1, decide_eq_true c2, hr]
          rfl
        rw [ek] at k
        by_cases c3 : (0 : Int) ≤ b
        · refine if1 (decide_eq_true c3) ⟨_, rfl, _, rfl, _, _, rfl, rfl, p, _, _, .str r, rfl, rfl, hp, at_of (j := (a - 1).toNat) (by omega) (by rw [List.getElem?_map, hr]; rfl), _, r.length, rfl, ⟨hz r (List.mem_of_getElem? hr), rfl⟩, _, _, rfl, rfl, ?_⟩
          rw [decide_eq_true c3] at k
          exact k
        · refine if0 (decide_eq_false c3) ?_
          rw [decide_eq_false c3] at k
          exact k
      · refine if1 (by rw [decide_eq_false c2]; rfl) ?_
        have ek : isPl rows (.int a) (.int b) = false := by
          show (decide (1 ≤ a) && (decide (a ≤ (rows.length : Int)) && _)) = _
          rw [decide_eq_true c1, decide_eq_false c2]
          rfl
        rw [ek] at k
        exact k
    · refine if0 (decide_eq_false c1) ⟨_, rfl, if1 rfl ?_⟩
      have ek : isPl rows (.int a) (.int b) = false := by
        show (decide (1 ≤ a) && _) = _
        rw [decide_eq_false c1]
        rfl
      rw [ek] at k
      exact k
theorem ok_placeof {f : Addr} {fd : FuncData} (F : Fun K "place_of" "place_of" splace_of f fd) (N : NdC K C) : FnG P w K mg base CX0 1 f fd ["node"] (spPlaceOf C) := by
  refine okG0 F scplace_of (fun vs H Q E h => ?_) (fun cdv A outer s H vs Q E hq hr h => ?_)
  · obtain ⟨x, dx, kd, hh, v0, v1, v2, v3, rfl, _⟩ := h
    rfl
  · obtain ⟨x, dx, kd, hh, v0, v1, v2, v3, rfl, hx, k⟩ := h
    refine ⟨_, (pss_one (ps_ret (pe_tup (pa_cons (pe_fld (pv 0) rfl) (pa_cons (pe_fld (pv 0) rfl) (pa_cons (pe_fld (pv 0) rfl) (pa_cons (pe_fld (pv 0) rfl) pa_nil))))))), ?_⟩
    exact ⟨_, rfl, x, C, dx, _, _, rfl, hx, N.cls, N.no _ (by simp), rfl, _, rfl, x, C, dx, _, _, rfl, hx, N.cls, N.no _ (by simp), rfl, _, rfl, x, C, dx, _, _, rfl, hx, N.cls, N.no _ (by simp), rfl, _, rfl, x, C, dx, _, _, rfl, hx, N.cls, N.no _ (by simp), rfl, (by show 4 ≤ sizeLine; decide), k⟩
end
section
variable {P : Program} {w : World} {K : PySem.W.Frag} {mg : Str → Option Value} {base : Heap} {C CP CN TE : Addr}
theorem ok_chk {f : Addr} {fd : FuncData} (F : Fun K "checked_node" "checked_node" schecked_node f fd) (T : Txt mg) (U : Cl57 K mg C CP CN TE) : FnG P w K mg base (L2.CX P w) 1 f fd ["thing"] (spChk K C CN) := by
  refine okG F scchecked_node (fun vs H Q E h => ?_) (fun cdv A outer s H vs Q E hq hr h => ?_)
  · obtain ⟨v, rfl, _⟩ := h
    rfl
  · obtain ⟨v, rfl, h⟩ := h
    refine ⟨_, (pss_cons (ps_if (pt_not (pt_val (pe_callB call_isi (by rfl) T.b_isinstance (by decide +kernel) (pa_cons (pv 0) (pa_cons (pe_glob (v := .ref C) rfl U.gN rfl) pa_nil)))))
      (pss_one (ps_raise rfl (takes_of rfl rfl rfl rfl) (pmk_own0 PySem.F.excBase_ValueError U.qn U.kn.g U.kn.kp (raises_own U.kn.ec.hs U.kn.ty))))
      pss_nil)
      (pss_one (ps_ret (pv 0)))), ?_⟩
    rcases h with ⟨x, dx, fs, rfl, hx, k⟩ | ⟨ty, hty, hk, k⟩
    · exact ⟨_, rfl, _, _, _, _, true, rfl, .own C, U.isN hx, U.kitN, _, rfl, if0 rfl ⟨_, rfl, k⟩⟩
    · exact ⟨_, rfl, _, _, _, _, false, rfl, .own C, hty, hk, _, rfl, if1 rfl k⟩
theorem ok_seg {f : Addr} {fd : FuncData} (F : Fun K "source_segment" "source_segment" ssource_segment f fd) (T : Txt mg) (U : Cl57 K mg C CP CN TE) (Dis_place : Df P w K mg base CX0 2 "is_place" (spPlace K)) (Dplace_of : Df P w K mg base CX0 1 "place_of" (spPlaceOf C)) (Dchecked_node : Df P w K mg base (L2.CX P w) 1 "checked_node" (spChk K C CN)) :
    FnG P w K mg base (L2.CX P w) 3 f fd ["text", "node"] (spSeg K C CP CN) := by
  refine okG F scsource_segment (fun vs H Q E h => ?_) (fun cdv A outer s H vs Q E hq hr h => ?_)
  · obtain ⟨tx, v, rows, rfl, _⟩ := h
    rfl
  · obtain ⟨tx, v, rows, rfl, er, htx, hrl, hrr, h⟩ := h
    refine ⟨_, (pss_cons (ps_set (i := 2) scsource_segment.nd rfl (Or.inl rfl) (pe_df Dplace_of hq hr pass0 (pa_cons (pe_df Dchecked_node hq hr (passes_call (takes_of rfl rfl rfl rfl) (fun _ _ _ _ h => h)) (pa_cons (pv 1) pa_nil)) pa_nil)))
      (pss_cons (ps_if (pt_cmpR (op_inDT (hu65 hr)) pe_non (pv 2) (by rfl))
      (pss_one (ps_ret pe_non))
      pss_nil)
      (pss_cons (ps_set (i := 3) scsource_segment.nd rfl (Or.inl rfl) (pe_split (pv 0) pe_str))
      (pss_cons (ps_if (PW.pt (pw_or (pt_not (pt_val (pe_df Dis_place hq hr pass0 (pa_cons (pv 3) (pa_cons (pe_ix ix_tup (pv 2) pe_int (fun _ _ => rfl)) (pa_cons (pe_ix ix_tup (pv 2) pe_int (fun _ _ => rfl)) pa_nil)))))) (pw_or1 (pt_not (pt_val (pe_df Dis_place hq hr pass0 (pa_cons (pv 3) (pa_cons (pe_ix ix_tup (pv 2) pe_int (fun _ _ => rfl)) (pa_cons (pe_ix ix_tup (pv 2) pe_int (fun _ _ => rfl)) pa_nil)))))))))
      (pss_one (ps_raise rfl (takes_of rfl rfl rfl rfl) (pmk_own0 PySem.F.excBase_ValueError U.qp U.kp.g U.kp.kp (raises_own U.kp.ec.hs U.kp.ty))))
      pss_nil)
      (pss_cons (ps_if (pt_cmpR (op_ltT hr.units0) (pe_slice sl_tupA (pv 2) (po_some pe_int) po_none) (pe_slice sl_tupA (pv 2) po_none (po_some pe_int)) (nomark _))
      (pss_one (ps_raise rfl (takes_of rfl rfl rfl rfl) (pmk_own0 PySem.F.excBase_ValueError U.qp U.kp.g U.kp.kp (raises_own U.kp.ec.hs U.kp.ty))))
      pss_nil)
      (pss_cons (ps_set (i := 4) scsource_segment.nd rfl (Or.inl rfl) (pe_slice sl_list (pv 3) (po_some (pe_op op_sub (pe_ix ix_tup (pv 2) pe_int (fun _ _ => rfl)) pe_int)) (po_some (pe_ix ix_tup (pv 2) pe_int (fun _ _ => rfl)))))
      (pss_cons (ps_asg (pe_slice sl_str (pe_ix ix_list (pv 4) (pe_un un_neg pe_int) (fun _ _ => rfl)) po_none (po_some (pe_ix ix_tup (pv 2) pe_int (fun _ _ => rfl)))) (pg_sub (pv 4) (pe_un un_neg pe_int) set_list))
      (pss_cons (ps_asg (pe_slice sl_str (pe_ix ix_list (pv 4) pe_int (fun _ _ => rfl)) (po_some (pe_ix ix_tup (pv 2) pe_int (fun _ _ => rfl))) po_none) (pg_sub (pv 4) pe_int set_list))
      (pss_one (ps_ret (pe_join pe_str (pv 4)))))))))))), ?_⟩
    rcases h with ⟨ty, hty, hk, k⟩ | ⟨x, dx, kd, hh, v0, v1, v2, v3, d0, d1, d2, d3, rfl, hx, h0, h1, h2, h3, sh, kP, kN, kT⟩
    · exact ⟨_, rfl, _, rfl, .inr ⟨ty, hty, hk, k⟩⟩
    refine ⟨_, rfl, _, rfl, .inl ⟨x, dx, _, rfl, hx, x, dx, kd, hh, v0, v1, v2, v3, rfl, hx, fun q hq => nm ?_⟩⟩
    dsimp only
    have sm1 := same_new (o := .tup [v0, v1, v2, v3]) hq
    have hq1 : (upd H q (.tup [v0, v1, v2, v3])) q = some (.tup [v0, v1, v2, v3]) := upd_same
    generalize upd H q (.tup [v0, v1, v2, v3]) = H1 at sm1 hq1 ⊢
    refine ⟨_, rfl, .none, [d0, d1, d2, d3], .non, .tup (.inl (.inl hq1)) (.cons (dp_same sm1 _ _ h0) (.cons (dp_same sm1 _ _ h1) (.cons (dp_same sm1 _ _ h2) (.cons (dp_same sm1 _ _ h3) .nil)))), rfl, sh, _, rfl, ?_⟩
    cases hn : noneIn [d0, d1, d2, d3] with
    | true => exact if1 hn (kN (by unfold segR; rw [if_pos hn]) H1 sm1)
    | false =>
    refine if0 hn ⟨_, rfl, ⟨tx, rfl⟩, tx, "\n", rfl, rfl, rfl, htx, fun p hp => nm ?_⟩
    dsimp only
    rw [er]
    have sm2 := same_new (o := .lst (rows.map V.str)) hp
    have hp2 : (upd H1 p (.lst (rows.map V.str))) p = some (.lst (rows.map V.str)) := upd_same
    generalize upd H1 p (.lst (rows.map V.str)) = H2 at sm2 hp2 ⊢
    have s2 := sm1.trans sm2
    have hq2 := sm2 q _ hq1
    have hz : ∀ r ∈ rows, r.length ≤ sizeLine := fun r hr => Nat.le_trans (hrr r hr) (by decide)
    refine ⟨_, rfl, _, rfl, q, [v0, v1, v2, v3], 0, v0, rfl, rfl, .inl (.inl hq2), rfl, _, rfl, q, [v0, v1, v2, v3], 1, v1, rfl, rfl, .inl (.inl hq2), rfl, p, v0, v1, rows, d0, d1, rfl, SqL.of hp2, dp_same s2 _ _ h0, dp_same s2 _ _ h1, hz, _, rfl, ?_⟩
    cases e1 : isPl rows d0 d1 with
    | false => exact if1 rfl (if1 rfl (kP (by unfold segR; rw [if_neg (by rw [hn]; simp), e1]; rfl) H2 s2))
    | true =>
    refine if0 rfl ⟨_, rfl, _, rfl, q, [v0, v1, v2, v3], 2, v2, rfl, rfl, .inl (.inl hq2), rfl, _, rfl, q, [v0, v1, v2, v3], 3, v3, rfl, rfl, .inl (.inl hq2), rfl, p, v2, v3, rows, d2, d3, rfl, SqL.of hp2, dp_same s2 _ _ h2, dp_same s2 _ _ h3, hz, _, rfl, ?_⟩
    cases e2 : isPl rows d2 d3 with
    | false => exact if1 rfl (kP (by unfold segR; rw [if_neg (by rw [hn]; simp), e1, e2]; rfl) H2 s2)
    | true =>
    refine if0 rfl ?_
    obtain ⟨i, b, ri, rfl, rfl, hi, hb⟩ := isPl_int e1
    obtain ⟨j, d, rj, rfl, rfl, hj, hd⟩ := isPl_int e2
    cases h0
    cases h1
    cases h2
    cases h3
    have eR : segR rows (.int ((i : Int) + 1)) (.int b) (.int ((j : Int) + 1)) (.int d) = if HT.lexLt [(j : Int) + 1, d] [(i : Int) + 1, b] = true then none else some (some (Txt.join "\n" (partOf rows i j rj b d))) := by
      unfold segR
      rw [if_neg (by rw [hn]; simp), e1, e2, if_pos (by rfl)]
      have ei : ((i : Int) + 1 - 1).toNat = i := by omega
      have ej : ((j : Int) + 1 - 1).toNat = j := by omega
      simp only [ei, ej, Int.toNat_natCast, hj]
      rfl
    refine ⟨_, rfl, 2, rfl, q, [_, _, _, _], rfl, .inl (.inl hq2), fun h => absurd h.1 (show ¬ HT.sIx 4 0 (some 2) = 0 by decide), fun _ p1 hp1 => ?_⟩
    have sm3 := same_new (o := .tup [V.int ((j : Int) + 1), V.int d]) hp1
    have hp3 : (upd H2 p1 (.tup [V.int ((j : Int) + 1), V.int d])) p1 = some (.tup [V.int ((j : Int) + 1), V.int d]) := upd_same
    show tSl _ _ _ _ _ (upd H2 p1 (.tup [V.int ((j : Int) + 1), V.int d])) _
    generalize upd H2 p1 (.tup [V.int ((j : Int) + 1), V.int d]) = H3 at sm3 hp3 ⊢
    refine ⟨_, rfl, 2, rfl, q, [_, _, _, _], rfl, .inl (.inl (sm3 q _ hq2)), fun h => absurd h.2 (show ¬ HT.sIx 4 4 (some 2) = 4 by decide), fun _ p2 hp4 => ?_⟩
    have sm4 := same_new (o := .tup [V.int ((i : Int) + 1), V.int b]) hp4
    have hp5 : (upd H3 p2 (.tup [V.int ((i : Int) + 1), V.int b])) p2 = some (.tup [V.int ((i : Int) + 1), V.int b]) := upd_same
    show rLtT K _ _ (upd H3 p2 (.tup [V.int ((i : Int) + 1), V.int b])) _
    generalize upd H3 p2 (.tup [V.int ((i : Int) + 1), V.int b]) = H4 at sm4 hp5 ⊢
    refine ⟨p1, p2, [(j : Int) + 1, d], [(i : Int) + 1, b], rfl, rfl, .inl (.inl (sm4 p1 _ hp3)), .inl (.inl hp5), _, rfl, ?_⟩
    have s4 := s2.trans (sm3.trans sm4)
    cases hlx : HT.lexLt [(j : Int) + 1, d] [(i : Int) + 1, b] with
    | true => exact if1 rfl (kP (by rw [eR, hlx]; rfl) H4 s4)
    | false =>
    have hij : i ≤ j := by
      rw [HT.lexLt_cons] at hlx
      by_cases e : (j : Int) + 1 = (i : Int) + 1
      · omega
      · rw [if_neg e] at hlx
        have := of_decide_eq_false hlx
        omega
    rw [hlx, if_neg (by simp)] at eR
    have hq4 := (sm3.trans sm4) q _ hq2
    have hpp := (sm3.trans sm4) p _ hp2
    refine if0 rfl ⟨_, rfl, _, rfl, q, [_, _, _, _], 0, _, rfl, rfl, .inl (.inl hq4), rfl, _, _, rfl, rfl, _, rfl, _, rfl, q, [_, _, _, _], 2, _, rfl, rfl, .inl (.inl hq4), rfl, _, rfl, p, _, rfl, SqL.of hpp, fun r hrn => nm ?_⟩
    dsimp only
    rw [cutV_rows rows i j rj hj hij]
    have sm5 := same_new (o := .lst (((rows.drop i).take (j - i) ++ [rj]).map V.str)) hrn
    have hr5 : (upd H4 r (.lst (((rows.drop i).take (j - i) ++ [rj]).map V.str))) r = some (.lst (((rows.drop i).take (j - i) ++ [rj]).map V.str)) := upd_same
    generalize upd H4 r (.lst (((rows.drop i).take (j - i) ++ [rj]).map V.str)) = H5 at sm5 hr5 ⊢
    have hHr : H r = none := same_none s4 hrn
    have hqr : q ≠ r := fun e => by rw [e, hrn] at hq4; cases hq4
    rw [List.map_append, List.map_cons, List.map_nil] at hr5
    have s5 := s4.trans sm5
    obtain ⟨M, eM⟩ : ∃ M, M = (rows.drop i).take (j - i) := ⟨_, rfl⟩
    rw [← eM] at hr5
    refine ⟨_, rfl, _, rfl, r, _, -1, .str rj, rfl, rfl, SqL.of hr5, Tq.atI_last _ _, _, rfl, q, [_, _, _, _], 3, _, rfl, rfl, .inl (.inl (sm5 q _ hq4)), rfl, _, rfl, rj, rfl, hz rj (List.mem_of_getElem? hj), _, rfl, _, rfl, r, _, -1, _, rfl, rfl, hr5, (by rw [List.length_append, List.length_singleton]; exact ixN_last), ?_⟩
    rw [set_last]
    have k6 : ∀ b o, H b = some o → (upd H5 r (.lst (M.map V.str ++ [V.str (cutS rj none (some (d : Int)))]))) b = some o := fun b o e => by
      rw [upd_ne (fun z => by rw [z, hHr] at e; cases e)]
      exact s5 b o e
    have hr6 : (upd H5 r (.lst (M.map V.str ++ [V.str (cutS rj none (some (d : Int)))]))) r = some (.lst (M.map V.str ++ [V.str (cutS rj none (some (d : Int)))])) := upd_same
    have hq6 : (upd H5 r (.lst (M.map V.str ++ [V.str (cutS rj none (some (d : Int)))]))) q = some (.tup [V.int ((i : Int) + 1), V.int b, V.int ((j : Int) + 1), V.int d]) := by rw [upd_ne hqr]; exact sm5 q _ hq4
    generalize upd H5 r (.lst (M.map V.str ++ [V.str (cutS rj none (some (d : Int)))])) = H6 at k6 hr6 hq6 ⊢
    have el : M.map V.str ++ [V.str (cutS rj none (some (d : Int)))] = (M ++ [cutS rj none (some (d : Int))]).map V.str := by rw [List.map_append]; rfl
    rw [el] at hr6
    have hall : ∀ r ∈ M ++ [cutS rj none (some (d : Int))], r.length ≤ 100 := fun r hr => by
      rcases List.mem_append.mp hr with h | h
      · rw [eM] at h
        exact hrr r (List.mem_of_mem_drop (List.mem_of_mem_take h))
      · rw [List.mem_singleton.mp h]
        exact Nat.le_trans (cutS_length _ _ _) (hrr rj (List.mem_of_getElem? hj))
    have hcnt : (M ++ [cutS rj none (some (d : Int))]).length ≤ 101 := by
      rw [List.length_append, List.length_singleton, eM, List.length_take, List.length_drop]
      omega
    have ep : partOf rows i j rj b d = match M ++ [cutS rj none (some (d : Int))] with | [] => [] | p :: r => cutS p (some (b : Int)) none :: r := by rw [eM]; rfl
    cases hM : M ++ [cutS rj none (some (d : Int))] with
    | nil => simp at hM
    | cons p0 r0 =>
    rw [hM] at hr6 hall hcnt ep
    refine ⟨_, rfl, r, _, 0, .str p0, rfl, rfl, SqL.of hr6, at_of (j := 0) rfl rfl, _, rfl, q, [_, _, _, _], 1, _, rfl, rfl, .inl (.inl hq6), rfl, _, rfl, p0, rfl, Nat.le_trans (hall p0 (.head _)) (by decide), _, rfl, r, _, 0, 0, rfl, rfl, hr6, (by unfold ixN; simp), ?_⟩
    have hr7 : (upd H6 r (.lst (((p0 :: r0).map V.str).set 0 (V.str (cutS p0 (some (b : Int)) none))))) r = some (.lst ((cutS p0 (some (b : Int)) none :: r0).map V.str)) := upd_same
    refine ⟨⟨_, rfl⟩, _, rfl, "\n", r, cutS p0 (some (b : Int)) none :: r0, rfl, rfl, .inl (SqL.of hr7), ?_, ?_⟩
    · have hall2 : ∀ x ∈ cutS p0 (some (b : Int)) none :: r0, x.length ≤ 100 := fun x hx => by
        rcases List.mem_cons.mp hx with e | e
        · rw [e]; exact Nat.le_trans (cutS_length _ _ _) (hall p0 (.head _))
        · exact hall x (.tail _ e)
      have := sum_le hall2
      have hc : (cutS p0 (some (b : Int)) none :: r0).length ≤ 101 := hcnt
      have hn1 : ("\n" : Str).length = 1 := rfl
      rw [hn1]
      omega
    · have ep2 : partOf rows i j rj b d = cutS p0 (some (b : Int)) none :: r0 := ep
      rw [← ep2]
      refine kT _ eR _ fun b o e => ?_
      rw [upd_ne (fun z => by rw [z, hHr] at e; cases e)]
      exact k6 b o e
end
end K57

set_option pp.maxSteps 600

namespace K57
open PySem L2 Tq
abbrev s_law_is_spot : Stmt := top 42
abbrev N_law_is_spot : List Str := ["_law_rows", "_law_line", "_law_column", "_law_one"]
theorem sc_law_is_spot : FnScope N_law_is_spot ["_law_rows", "_law_line", "_law_column"] (defScope s_law_is_spot) := ⟨rfl, rfl, rfl, by decide +kernel, rfl, by decide +kernel, by decide +kernel⟩
abbrev s_law_due : Stmt := top 37
abbrev N_law_due : List Str := ["_law_rows", "_law_place", "_law_starts", "_law_row", "_law_first", "_law_last"]
theorem sc_law_due : FnScope N_law_due ["_law_rows", "_law_place"] (defScope s_law_due) := ⟨rfl, rfl, rfl, by decide +kernel, rfl, by decide +kernel, by decide +kernel⟩
abbrev s_law_node : Stmt := top 38
abbrev N_law_node : List Str := ["_law_kind", "_law_first", "_law_last", "_law_line", "_law_column"]
theorem sc_law_node : FnScope N_law_node ["_law_kind", "_law_first", "_law_last"] (defScope s_law_node) := ⟨rfl, rfl, rfl, by decide +kernel, rfl, by decide +kernel, by decide +kernel⟩
abbrev s_law_tried : Stmt := top 39
abbrev N_law_tried : List Str := ["_law_text_here", "_law_thing", "_law_found", "e"]
theorem sc_law_tried : FnScope N_law_tried ["_law_text_here", "_law_thing"] (defScope s_law_tried) := ⟨rfl, rfl, rfl, by decide +kernel, rfl, by decide +kernel, by decide +kernel⟩
section
variable {P : Program} {w : World} {K : PySem.W.Frag} {mg : Str → Option Value} {base : Heap} {C CP CN TE : Addr} {t : Tb}
theorem ok_spotq {f : Addr} {fd : FuncData} (F : Fun K "_law_is_spot" "_law_is_spot" s_law_is_spot f fd) (T : Txt mg) : FnG P w K mg base CX0 1 f fd ["_law_rows", "_law_line", "_law_column"] (spSpotQ K) := by
  refine okG0 F sc_law_is_spot (fun vs H Q E h => ?_) (fun cdv A outer s H vs Q E hq hr h => ?_)
  · obtain ⟨p, v1, v2, rows, d1, d2, rfl, _⟩ := h
    rfl
  · obtain ⟨p, v1, v2, rows, d1, d2, rfl, hp, h1, h2, hz, k⟩ := h
    refine ⟨_, (pss_cons (ps_for PassesOwn.never rfl (pi_tup (pe_tup (pa_cons (pv 1) (pa_cons (pv 2) pa_nil)))) (pg_name (i := 3) sc_law_is_spot.nd rfl (Or.inl rfl))
      (pss_one (ps_if (PW.pt (pw_or (pt_not (pt_val (pe_callB call_isi (by rfl) T.b_isinstance (by decide +kernel) (pa_cons (pv 3) (pa_cons (pe_bltn (v := .ty "int") rfl T.b_int (by decide +kernel) rfl) pa_nil))))) (pw_or1 (pt_val (pe_callB call_isi (by rfl) T.b_isinstance (by decide +kernel) (pa_cons (pv 3) (pa_cons (pe_bltn (v := .ty "bool") rfl T.b_bool (by decide +kernel) rfl) pa_nil)))))))
      (pss_one (ps_ret pe_bl))
      pss_nil)))
      (pss_one (ps_ret (pe_and (pe_chain op_lt op_le pe_int (pv 1) (pe_callB call_len_seq (by rfl) T.b_len (by decide +kernel) (pa_cons (pv 0) pa_nil))) (pe_one (pe_chain op_le op_le pe_int (pv 2) (pe_callB call_len (by rfl) T.b_len (by decide +kernel) (pa_cons (pe_ix ix_list (pv 0) (pe_op op_sub (pv 1) pe_int) (fun _ _ => rfl)) pa_nil)))))))), ?_⟩
    refine ⟨_, rfl, _, rfl, (by show 2 ≤ sizeLine; decide), fun tp htp => ⟨tp, rfl, ⟨_, .inl (.inl upd_same)⟩, ?_⟩⟩
    have sm := same_new (o := .tup [v1, v2]) htp
    have htp1 : (upd H tp (.tup [v1, v2])) tp = some (.tup [v1, v2]) := upd_same
    generalize upd H tp (.tup [v1, v2]) = H1 at sm htp1 ⊢
    have bad : isI d1 = false ∨ isI d2 = false → isPl rows d1 d2 = false := fun h => by
      rcases h with h | h
      · cases d1 <;> first | rfl | cases h
      · cases d1 <;> cases d2 <;> first | rfl | cases h
    have d1' := dp_same sm _ _ h1
    have d2' := dp_same sm _ _ h2
    have hp1 := sqL_same sm hp
    refine for_tup (K := K) (xs := [v1, v2]) (fun i σ' H' => H' = H1 ∧ (∃ s3, σ' = [some (.ref p), some v1, some v2, s3]) ∧ (0 < i → isI d1 = true) ∧ (1 < i → isI d2 = true)) ⟨rfl, ⟨none, rfl⟩, fun h => absurd h (by decide), fun h => absurd h (by decide)⟩
      (fun i σ' H' _ h => by rw [h.1]; exact .inl (.inl htp1)) (fun i x σ' H' hi pv => ?_) (fun σ' H' pv => ?_)
    · obtain ⟨rfl, ⟨s3, rfl⟩, a1, a2⟩ := pv
      obtain ⟨dd, hdd, hbad, hgood⟩ : ∃ dd, Dp K H' x dd ∧ (isI dd = false → isPl rows d1 d2 = false) ∧ (isI dd = true → (0 < i + 1 → isI d1 = true) ∧ (1 < i + 1 → isI d2 = true)) := by
        match i, hi with
        | 0, hi =>
          have e : v1 = x := by simpa using hi
          subst e
          exact ⟨d1, d1', fun h => bad (.inl h), fun h => ⟨fun _ => h, fun h => absurd h (by decide)⟩⟩
        | 1, hi =>
          have e : v2 = x := by simpa using hi
          subst e
          exact ⟨d2, d2', fun h => bad (.inr h), fun h => ⟨fun _ => a1 (by decide), fun _ => h⟩⟩
        | i + 2, hi => simp at hi
      refine nm ?_
      refine ⟨_, rfl, _, _, _, _, _, rfl, .ty "int", dp_ty hdd, dp_int hdd, _, rfl, ?_⟩
      have kb : isI dd = false → Q (.bl false) H' := fun h => by have := k H' sm; rw [hbad h] at this; exact this
      cases hdd with
      | non => exact if1 rfl (if1 rfl (kb rfl))
      | bl b => exact if0 rfl ⟨_, rfl, _, _, _, _, _, rfl, .ty "bool", dp_ty (.bl b), dp_bool (K := K) (H := H') (.bl b), _, rfl, if1 rfl (kb rfl)⟩
      | int z => exact if0 rfl ⟨_, rfl, _, _, _, _, _, rfl, .ty "bool", dp_ty (.int z), dp_bool (K := K) (H := H') (.int z), _, rfl, if0 rfl ⟨rfl, ⟨_, rfl⟩, (hgood rfl).1, (hgood rfl).2⟩⟩
      | str x => exact if1 rfl (if1 rfl (kb rfl))
      | lst _ _ => exact if1 rfl (if1 rfl (kb rfl))
      | tup _ _ => exact if1 rfl (if1 rfl (kb rfl))
    · obtain ⟨rfl, ⟨s3, rfl⟩, a1, a2⟩ := pv
      have i1 := a1 (show 0 < 2 by decide)
      have i2 := a2 (show 1 < 2 by decide)
      obtain ⟨a, rfl⟩ : ∃ a, d1 = .int a := by cases d1 <;> first | exact ⟨_, rfl⟩ | cases i1
      obtain ⟨b, rfl⟩ : ∃ b, d2 = .int b := by cases d2 <;> first | exact ⟨_, rfl⟩ | cases i2
      cases h1
      cases h2
      have k := k H' sm
      have ek : isPl rows (.int a) (.int b) = (decide (0 < a) && (decide (a ≤ (rows.length : Int)) && (decide (0 ≤ b) && decide (b ≤ (((rows[(a - 1).toNat]?).getD "").length : Int))))) := by
        show (decide (1 ≤ a) && _) = _
        rw [show decide (1 ≤ a) = decide (0 < a) from decide_eq_decide.mpr (by omega)]
      rw [ek] at k
      refine ⟨_, rfl, _, _, rfl, rfl, _, rfl, ?_⟩
      by_cases c1 : (0 : Int) < a
      · refine if1 (decide_eq_true c1) ⟨_, rfl, p, _, rfl, .inl hp1, _, _, rfl, rfl, _, rfl, ?_⟩
        rw [List.length_map]
        rw [decide_eq_true c1] at k
        by_cases c2 : a ≤ (rows.length : Int)
        · rw [decide_eq_true c2] at k
          refine if1 (decide_eq_true c2) ⟨_, rfl, _, _, rfl, rfl, _, rfl, ?_⟩
          obtain ⟨r, hr⟩ : ∃ r, rows[(a - 1).toNat]? = some r := ⟨_, List.getElem?_eq_getElem (by omega)⟩
          rw [hr] at k
          by_cases c3 : (0 : Int) ≤ b
          · rw [decide_eq_true c3] at k
            exact if1 (decide_eq_true c3) ⟨_, rfl, _, rfl, _, _, rfl, rfl, p, _, _, .str r, rfl, rfl, hp1, at_of (j := (a - 1).toNat) (by omega) (by rw [List.getElem?_map, hr]; rfl), _, r.length, rfl, ⟨hz r (List.mem_of_getElem? hr), rfl⟩, _, _, rfl, rfl, k⟩
          · rw [decide_eq_false c3] at k
            exact if0 (decide_eq_false c3) k
        · rw [decide_eq_false c2] at k
          exact if0 (decide_eq_false c2) k
      · rw [decide_eq_false c1] at k
        exact if0 (decide_eq_false c1) ⟨_, rfl, if0 rfl k⟩
theorem ok_due {f : Addr} {fd : FuncData} (F : Fun K "_law_due" "_law_due" s_law_due f fd) (T : Txt mg) (D_law_is_spot : Df P w K mg base CX0 1 "_law_is_spot" (spSpotQ K)) : FnG P w K mg base CX0 2 f fd ["_law_rows", "_law_place"] (spDue K) := by
  refine okG0 F sc_law_due (fun vs H Q E h => ?_) (fun cdv A outer s H vs Q E hq hr h => ?_)
  · obtain ⟨p, q, rows, v0, v1, v2, v3, d0, d1, d2, d3, rfl, _⟩ := h
    rfl
  · obtain ⟨p, q, rows, v0, v1, v2, v3, d0, d1, d2, d3, rfl, hp, hq1, h0, h1, h2, h3, sh, hrl, hrr, k⟩ := h
    refine ⟨_, (pss_cons (ps_if (pt_cmpR (op_inD (hu65 hr)) pe_non (pv 1) (by rfl))
      (pss_one (ps_ret (pe_tup (pa_cons pe_str (pa_cons pe_non pa_nil)))))
      pss_nil)
      (pss_cons (ps_if (PW.pt (pw_or (pt_not (pt_val (pe_df D_law_is_spot hq hr pass0 (pa_cons (pv 0) (pa_cons (pe_ix ix_list (pv 1) pe_int (fun _ _ => rfl)) (pa_cons (pe_ix ix_list (pv 1) pe_int (fun _ _ => rfl)) pa_nil)))))) (pw_or1 (pt_not (pt_val (pe_df D_law_is_spot hq hr pass0 (pa_cons (pv 0) (pa_cons (pe_ix ix_list (pv 1) pe_int (fun _ _ => rfl)) (pa_cons (pe_ix ix_list (pv 1) pe_int (fun _ _ => rfl)) pa_nil)))))))))
      (pss_one (ps_ret (pe_tup (pa_cons pe_str (pa_cons pe_bl pa_nil)))))
      pss_nil)
      (pss_cons (ps_set (i := 2) sc_law_due.nd rfl (Or.inl rfl) (pe_lst (pa_cons pe_int pa_nil)))
      (pss_cons (ps_for PassesOwn.never rfl (pi_list (pv 0)) (pg_name (i := 3) sc_law_due.nd rfl (Or.inl rfl))
      (pss_one (ps_expr (pe_bm PySem.F.plainAttrs_list PySem.F.slot_list_append PySem.F.type_list_append mt_append (pv 2) (pa_cons (pe_op op_add (pe_op op_add (pe_ix ix_list (pv 2) (pe_un un_neg pe_int) (fun _ _ => rfl)) (pe_callB call_len (by rfl) T.b_len (by decide +kernel) (pa_cons (pv 3) pa_nil))) pe_int) pa_nil)))))
      (pss_cons (ps_set (i := 4) sc_law_due.nd rfl (Or.inl rfl) (pe_op op_add (pe_ix ix_list (pv 2) (pe_op op_sub (pe_ix ix_list (pv 1) pe_int (fun _ _ => rfl)) pe_int) (fun _ _ => rfl)) (pe_ix ix_list (pv 1) pe_int (fun _ _ => rfl))))
      (pss_cons (ps_set (i := 5) sc_law_due.nd rfl (Or.inl rfl) (pe_op op_add (pe_ix ix_list (pv 2) (pe_op op_sub (pe_ix ix_list (pv 1) pe_int (fun _ _ => rfl)) pe_int) (fun _ _ => rfl)) (pe_ix ix_list (pv 1) pe_int (fun _ _ => rfl))))
      (pss_one (ps_ret (pe_ifExp (pt_cmpR op_le (pv 4) (pv 5) (nomark _)) (pe_tup (pa_cons pe_str (pa_cons (pe_slice sl_str (pe_join pe_str (pv 0)) (po_some (pv 4)) (po_some (pv 5))) pa_nil))) (pe_tup (pa_cons pe_str (pa_cons pe_bl pa_nil)))))))))))), ?_⟩
    have hz : ∀ r ∈ rows, r.length ≤ sizeLine := fun r hr => Nat.le_trans (hrr r hr) (by decide)
    have bad : ∀ H', Same H H' → dueR rows d0 d1 d2 d3 = none → tTup (tCons (tC (V.str "place")) (tCons (tC (V.bl true)) tNil)) (L2.start N_law_due [V.ref p, V.ref q]) H' Q := fun H' s' e => ⟨by decide, fun a ha => k a _ (s'.trans (same_new ha)) (by rw [e]; exact dp_pair ha (.str _) (.bl _))⟩
    refine ⟨_, rfl, .none, [d0, d1, d2, d3], .non, .lst hq1 (.cons h0 (.cons h1 (.cons h2 (.cons h3 .nil)))), rfl, sh, _, rfl, ?_⟩
    cases hn : noneIn [d0, d1, d2, d3] with
    | true => exact if1 hn ⟨by decide, fun a ha => k a _ (same_new ha) (by unfold dueR; rw [if_pos hn]; exact dp_pair ha (.str _) .non)⟩
    | false =>
    refine if0 hn ⟨_, rfl, _, rfl, q, [v0, v1, v2, v3], 0, v0, rfl, rfl, hq1, rfl, _, rfl, q, [v0, v1, v2, v3], 1, v1, rfl, rfl, hq1, rfl, p, v0, v1, rows, d0, d1, rfl, hp, h0, h1, hz, fun H1 s1 => ⟨_, rfl, ?_⟩⟩
    cases e1 : isPl rows d0 d1 with
    | false => exact if1 rfl (if1 rfl (bad H1 s1 (by unfold dueR; rw [if_neg (by rw [hn]; simp), e1]; rfl)))
    | true =>
    have hq2 := sqL_same s1 hq1
    refine if0 rfl ⟨_, rfl, _, rfl, q, [v0, v1, v2, v3], 2, v2, rfl, rfl, hq2, rfl, _, rfl, q, [v0, v1, v2, v3], 3, v3, rfl, rfl, hq2, rfl, p, v2, v3, rows, d2, d3, rfl, sqL_same s1 hp, dp_same s1 _ _ h2, dp_same s1 _ _ h3, hz, fun H2 s2 => ⟨_, rfl, ?_⟩⟩
    cases e2 : isPl rows d2 d3 with
    | false => exact if1 rfl (bad H2 (s1.trans s2) (by unfold dueR; rw [if_neg (by rw [hn]; simp), e1, e2]; rfl))
    | true =>
    refine if0 rfl ⟨by decide, fun st hst => nm ?_⟩
    dsimp only
    have s02 := s1.trans s2
    obtain ⟨i, b, ri, rfl, rfl, hi, hb⟩ := isPl_int e1
    obtain ⟨j, d, rj, rfl, rfl, hj, hd⟩ := isPl_int e2
    cases h0
    cases h1
    cases h2
    cases h3
    have eR : dueR rows (.int ((i : Int) + 1)) (.int b) (.int ((j : Int) + 1)) (.int d) = if ((stOf (rowL rows) i : Int) + b ≤ (stOf (rowL rows) j : Int) + d) then some (some (cutS (Txt.join "\n" rows) (some ((stOf (rowL rows) i : Int) + b)) (some ((stOf (rowL rows) j : Int) + d)))) else none := by
      unfold dueR
      rw [if_neg (by rw [hn]; simp), e1, e2, if_pos (by rfl)]
      have ei : ((i : Int) + 1 - 1).toNat = i := by omega
      have ej : ((j : Int) + 1 - 1).toNat = j := by omega
      simp only [ei, ej]
    have hH : H st = none := same_none s02 hst
    refine ⟨_, rfl, p, rfl, ⟨_, sqL_same (s02.trans (same_new hst)) hp⟩, ?_⟩
    refine for_list (K := K) (xs := rows.map V.str) (fun n σ' H' => (∃ s3, σ' = [some (.ref p), some (.ref q), some (.ref st), s3, none, none]) ∧ (∀ b o, H2 b = some o → H' b = some o) ∧ H' st = some (.lst ((List.range (n + 1)).map fun m => V.int (stOf (rowL rows) m))))
      ⟨⟨none, rfl⟩, same_new hst, by rw [upd_same]; cases rows <;> rfl⟩ (fun n σ' H' _ h => sqL_same (s02.trans h.2.1) hp) (fun n x σ' H' hx pv => ?_) (fun σ' H' pv => ?_)
    · obtain ⟨⟨s3, rfl⟩, kp, hs⟩ := pv
      obtain ⟨r, hr, rfl⟩ : ∃ r, rows[n]? = some r ∧ V.str r = x := by simpa using hx
      have hlt : n < rows.length := (List.getElem?_eq_some_iff.mp hr).1
      have es : (List.range (n + 1)).map (fun m => V.int (stOf (rowL rows) m)) = ((List.range n).map fun m => V.int (stOf (rowL rows) m)) ++ [V.int (stOf (rowL rows) n)] := by rw [List.range_succ, List.map_append]; rfl
      refine nm ?_
      refine ⟨_, rfl, .inl ⟨rfl, _, SqL.of hs⟩, _, rfl, _, rfl, st, _, -1, V.int (stOf (rowL rows) n), rfl, rfl, SqL.of hs, (by rw [es]; exact Tq.atI_last _ _), _, rfl, _, r.length, rfl, ⟨hz r (List.mem_of_getElem? hr), rfl⟩, _, _, rfl, rfl, _, _, rfl, rfl, st, _, _, rfl, rfl, hs, ?_, ?_⟩
      · rw [List.length_map, List.length_range]
        exact Nat.lt_of_le_of_lt (show n + 1 ≤ 100 by omega) (by decide)
      · refine ⟨⟨_, rfl⟩, fun b o e => ?_, ?_⟩
        · rw [upd_ne (fun z => by rw [z, hst] at e; cases e)]
          exact kp b o e
        · rw [upd_same, List.range_succ (n := n + 1), List.map_append]
          have hr' : (rowL rows)[n]? = some r.cps.toList := by simp [rowL, hr]
          have := stOf_step (rowL rows) n r.cps.toList hr'
          rw [str_len] at this
          rw [List.map_cons, List.map_nil, this]
          rfl
    · obtain ⟨⟨s3, rfl⟩, kp, hs⟩ := pv
      rw [List.length_map] at hs
      have s3' := s02.trans kp
      have hq3 := sqL_same s3' hq1
      have hil : i < rows.length := (List.getElem?_eq_some_iff.mp hi).1
      have hjl : j < rows.length := (List.getElem?_eq_some_iff.mp hj).1
      have at' : ∀ m : Nat, m < rows.length → ((List.range (rows.length + 1)).map fun m => V.int (stOf (rowL rows) m))[m]? = some (V.int (stOf (rowL rows) m)) := fun m hm => by
        rw [List.getElem?_map, List.getElem?_range (by omega)]
        rfl
      refine ⟨_, rfl, _, rfl, q, [_, _, _, _], 0, _, rfl, rfl, hq3, rfl, _, _, rfl, rfl, st, _, _, _, rfl, rfl, SqL.of hs, at_of (j := i) (by omega) (at' i hil), _, rfl, q, [_, _, _, _], 1, _, rfl, rfl, hq3, rfl, _, _, rfl, rfl, nm ?_⟩
      refine ⟨_, rfl, _, rfl, q, [_, _, _, _], 2, _, rfl, rfl, hq3, rfl, _, _, rfl, rfl, st, _, _, _, rfl, rfl, SqL.of hs, at_of (j := j) (by omega) (at' j hjl), _, rfl, q, [_, _, _, _], 3, _, rfl, rfl, hq3, rfl, _, _, rfl, rfl, nm ?_⟩
      refine ⟨_, rfl, _, rfl, _, _, rfl, rfl, _, rfl, ?_⟩
      by_cases hle : ((stOf (rowL rows) i : Int) + b ≤ (stOf (rowL rows) j : Int) + d)
      · rw [if_pos hle] at eR
        have h0' : rows ≠ [] := fun e => by rw [e] at hil; exact absurd hil (Nat.not_lt_zero _)
        refine if1 (decide_eq_true hle) ⟨⟨_, rfl⟩, _, rfl, "\n", p, rows, rfl, rfl, .inl (sqL_same s3' hp), ?_, _, rfl, _, rfl, _, rfl, _, rfl, _, rfl, ?_, (by show 2 ≤ sizeLine; decide), fun a ha => k a _ (s3'.trans (same_new ha)) (by rw [eR]; exact dp_pair ha (.str _) (.str _))⟩
        · have := sum_le hrr
          have hn1 : ("\n" : Str).length = 1 := rfl
          rw [hn1]
          have : rows.length * 100 ≤ 10000 := Nat.mul_le_mul_right 100 hrl
          omega
        · refine Nat.le_trans (join_len_le h0' hrr) (Nat.le_trans (Nat.mul_le_mul_right 101 hrl) (by decide))
      · rw [if_neg hle] at eR
        exact if0 (decide_eq_false hle) ⟨by decide, fun a ha => k a _ (s3'.trans (same_new ha)) (by rw [eR]; exact dp_pair ha (.str _) (.bl _))⟩
theorem ok_node57 {f : Addr} {fd : FuncData} (F : Fun K "_law_node" "_law_node" s_law_node f fd) (G : TbOk t) (Dnode : Nd P w K mg base CX0 7 "Node" C "self" "kind" (spInit t C true)) : FnG P w K mg base CX0 9 f fd ["_law_kind", "_law_first", "_law_last"] (spNode57 t C) := by
  refine okG0 F sc_law_node (fun vs H Q E h => ?_) (fun cdv A outer s H vs Q E hq hr h => ?_)
  · obtain ⟨z, rows, f, l, v0, v1, v2, v3, rfl, _⟩ := h
    rfl
  · obtain ⟨z, rows, ff, l, v0, v1, v2, v3, rfl, hz, hf, hl, k⟩ := h
    refine ⟨_, (pss_cons (ps_asg (pv 2) (pg_tup (by rfl) (pgs_cons (pg_name (i := 3) sc_law_node.nd rfl (Or.inl rfl)) (pgs_cons (pg_name (i := 4) sc_law_node.nd rfl (Or.inl rfl)) pgs_nil))))
      (pss_one (ps_ret (pe_makeW (ks := ["end_lineno", "lineno", "col_offset", "end_col_offset"]) Dnode hq hr pass0 (pa_cons (pv 0) pa_nil) (pk_cons (pv 3) (pk_cons (pe_ix ix_tup (pv 1) pe_int (fun _ _ => rfl)) (pk_cons (pe_ix ix_tup (pv 1) pe_int (fun _ _ => rfl)) (pk_cons (pv 4) pk_nil)))))))), ?_⟩
    refine ⟨_, rfl, l, _, rfl, .inl (.inl hl), rfl, _, _, rfl, _, _, rfl, rfl, ?_⟩
    refine ⟨_, rfl, _, rfl, _, rfl, ff, [v0, v1], 0, v0, rfl, rfl, .inl (.inl hf), rfl, _, rfl, ff, [v0, v1], 1, v1, rfl, rfl, .inl (.inl hf), rfl, _, rfl, _, [], rfl, by decide, rfl, fun x dx p d hx hdx nx hp hd px pdx xd ddx dp => ?_⟩
    refine ⟨x, dx, p, d, z, rows, [], _, rfl, ?_, ?_, upd_same, hz, (fun h => nomatch h), Nat.zero_le _, (by show 4 ≤ 1000; decide), ?_, fun k hk => ?_, fun hh hd' fps H' M => ⟨rfl, ?_⟩⟩
    · rw [upd_ne xd.symm, upd_ne px.symm, upd_same]
    · rw [upd_ne dp.symm, upd_same]
    · show ([Sum.inr "end_lineno", Sum.inr "lineno", Sum.inr "col_offset", Sum.inr "end_col_offset"] : List Key).Nodup
      decide
    · have hk' : k ∈ ([Sum.inr "end_lineno", Sum.inr "lineno", Sum.inr "col_offset", Sum.inr "end_col_offset"] : List Key) := hk
      simp only [List.mem_cons, List.not_mem_nil, or_false] at hk'
      rcases hk' with e | e | e | e
      · exact ⟨_, e, List.mem_append_right _ (by simp), fun h => nomatch h⟩
      · exact ⟨_, e, List.mem_append_right _ (by simp), fun h => nomatch h⟩
      · exact ⟨_, e, List.mem_append_right _ (by simp), fun h => nomatch h⟩
      · exact ⟨_, e, List.mem_append_right _ (by simp), fun h => nomatch h⟩
    · have e0 : kdOf (rows.map rowN) [] = [] := List.zip_nil_right
      have mn := M.node
      rw [e0] at mn
      refine k x dx hh H' (fun b o e => M.keep b o ?_ (fun q => by rw [q, hx] at e; cases e)) hx mn
      have ne : ∀ {c : Addr}, H c = none → b ≠ c := fun hc q => by rw [q, hc] at e; cases e
      rw [upd_ne (ne hd), upd_ne (ne hp), upd_ne (ne hx), upd_ne (ne hdx)]
      exact e
theorem ok_tried {f : Addr} {fd : FuncData} (F : Fun K "_law_tried" "_law_tried" s_law_tried f fd) (T : Txt mg) (U : Cl57 K mg C CP CN TE) (Dsource_segment : Df P w K mg base (L2.CX P w) 3 "source_segment" (spSeg K C CP CN)) : FnG P w K mg base CX0 4 f fd ["_law_text_here", "_law_thing"] (spTried K C) := by
  refine okG0 F sc_law_tried (fun vs H Q E h => ?_) (fun cdv A outer s H vs Q E hq hr h => ?_)
  · obtain ⟨tx, v, rows, rfl, _⟩ := h
    rfl
  · obtain ⟨tx, v, rows, rfl, er, htx, hrl, hrr, h⟩ := h
    refine ⟨_, (pss_cons (ps_set (i := 2) sc_law_tried.nd rfl (Or.inl rfl) (pe_tup (pa_cons pe_str pa_nil)))
      (pss_cons (ps_try_manyAs rfl rfl sc_law_tried.nd takes0 (fun W pn xe tk _ => (pss_one (ps_set (i := 2) sc_law_tried.nd rfl (Or.inl rfl) (pe_tup (pa_cons pe_str (pa_cons (pe_dfS Dsource_segment hq hr (fun σ => passAt tk σ) (pa_cons (pv 0) (pa_cons (pv 1) pa_nil))) pa_nil))))))
      (HdsAs.cons (i := 3) rfl rfl ⟨rfl, by decide, .inl U.kp.g⟩ (fun a oe cls d pn hz hf => (pss_one (ps_set (i := 2) sc_law_tried.nd rfl (Or.inl rfl) (pe_tup (pa_cons pe_str (pa_cons (pe_and (pe_callB (call_isE2 hz hf) (by rfl) T.b_isinstance (by decide +kernel) (pa_cons (pv 3) (pa_cons (pe_glob (v := .ref TE) rfl U.te.g rfl) pa_nil))) (pe_one (pe_not (pe_callB (call_isE2 hz hf) (by rfl) T.b_isinstance (by decide +kernel) (pa_cons (pv 3) (pa_cons (pe_glob (v := .ref CN) rfl U.kn.g rfl) pa_nil)))))) pa_nil)))))) (HdsAs.cons (i := 3) rfl rfl ⟨rfl, by decide, .inl U.kn.g⟩ (fun a oe cls d pn hz hf => (pss_one (ps_set (i := 2) sc_law_tried.nd rfl (Or.inl rfl) (pe_tup (pa_cons pe_str (pa_cons (pe_and (pe_callB (call_isE2 hz hf) (by rfl) T.b_isinstance (by decide +kernel) (pa_cons (pv 3) (pa_cons (pe_glob (v := .ref TE) rfl U.te.g rfl) pa_nil))) (pe_one (pe_not (pe_callB (call_isE2 hz hf) (by rfl) T.b_isinstance (by decide +kernel) (pa_cons (pv 3) (pa_cons (pe_glob (v := .ref CP) rfl U.kp.g rfl) pa_nil)))))) pa_nil)))))) HdsAs.nil)))
      (pss_one (ps_ret (pv 2))))), ?_⟩
    refine ⟨by decide, fun p0 hp0 => nm ?_⟩
    dsimp only
    have sm := same_new (o := .tup [V.str "none"]) hp0
    generalize upd H p0 (.tup [V.str "none"]) = H1 at sm ⊢
    have cp : CP ≠ TE := U.kp.ne_te U.te (by decide)
    have cn : CN ≠ TE := U.kn.ne_te U.te (by decide)
    rcases h with ⟨ty, hty, hk, k⟩ | ⟨x, dx, kd, hh, v0, v1, v2, v3, d0, d1, d2, d3, rfl, hx, h0, h1, h2, h3, sh, k⟩
    · refine ⟨_, rfl, _, rfl, tx, v, rows, rfl, er, htx, hrl, hrr, .inl ⟨ty, ty_same sm hty, hk, ?_⟩⟩
      refine ⟨false, U.kn.exm_other U.kp (by decide) cp, (fun h => nomatch h), fun _ => ⟨true, U.kn.exm_own, fun _ a ha => ?_, fun h => nomatch h⟩⟩
      refine ⟨_, rfl, CN, rfl, rfl, U.kn.ec, .ref TE, .ref TE, true, rfl, (fun u r => r), U.kn.kit_te U.te, _, rfl, if1 rfl ⟨_, rfl, CN, rfl, rfl, U.kn.ec, .ref CP, .ref CP, false, rfl, (fun u r => r), U.kn.kit_other U.kp (by decide) cp, _, rfl, by decide, fun p hp => nm ?_⟩⟩
      exact ⟨_, rfl, k p _ (sm.trans (same_new hp)) (dp_pair hp (.str _) (.bl _))⟩
    · refine ⟨_, rfl, _, rfl, tx, .ref x, rows, rfl, er, htx, hrl, hrr, .inr ⟨x, dx, kd, hh, v0, v1, v2, v3, d0, d1, d2, d3, rfl, sm x _ hx, dp_same sm _ _ h0, dp_same sm _ _ h1, dp_same sm _ _ h2, dp_same sm _ _ h3, sh, fun e H' s' => ?_, fun e H' s' => ?_, fun z e H' s' => ?_⟩⟩
      · refine ⟨true, U.kp.exm_own, fun _ a ha => ?_, fun h => nomatch h⟩
        refine ⟨_, rfl, CP, rfl, rfl, U.kp.ec, .ref TE, .ref TE, true, rfl, (fun u r => r), U.kp.kit_te U.te, _, rfl, if1 rfl ⟨_, rfl, CP, rfl, rfl, U.kp.ec, .ref CN, .ref CN, false, rfl, (fun u r => r), U.kp.kit_other U.kn (by decide) cn, _, rfl, by decide, fun p hp => nm ?_⟩⟩
        rw [e] at k
        exact ⟨_, rfl, k p _ (sm.trans (s'.trans (same_new hp))) (dp_pair hp (.str _) (.bl _))⟩
      · rw [e] at k
        exact ⟨by decide, fun p hp => nm ⟨_, rfl, k p _ (sm.trans (s'.trans (same_new hp))) (dp_pair hp (.str _) .non)⟩⟩
      · rw [e] at k
        exact ⟨(by show 2 ≤ sizeLine; decide), fun p hp => nm ⟨_, rfl, k p _ (sm.trans (s'.trans (same_new hp))) (dp_pair hp (.str _) (.str z))⟩⟩
end
end K57

set_option pp.maxSteps 900

namespace K57
open PySem L2 Tq
abbrev s_law_draw : Stmt := top 35
abbrev N_law_draw : List Str := ["_law_stream", "_law_many", "_law_digit", "_law_mixed", "_law_last"]
theorem sc_law_draw : FnScope N_law_draw ["_law_stream", "_law_many"] (defScope s_law_draw) := ⟨rfl, rfl, rfl, by decide +kernel, rfl, by decide +kernel, by decide +kernel⟩
abbrev s_law_pick : Stmt := top 36
abbrev N_law_pick : List Str := ["_law_stream", "_law_some"]
theorem sc_law_pick : FnScope N_law_pick ["_law_stream", "_law_some"] (defScope s_law_pick) := ⟨rfl, rfl, rfl, by decide +kernel, rfl, by decide +kernel, by decide +kernel⟩
abbrev s_law_text : Stmt := top 40
abbrev N_law_text : List Str := ["_law_stream", "_law_signs", "_law_rows", "_law_k", "_law_j"]
theorem sc_law_text : FnScope N_law_text ["_law_stream"] (defScope s_law_text) := ⟨rfl, rfl, rfl, by decide +kernel, rfl, by decide +kernel, by decide +kernel⟩
section
variable {P : Program} {w : World} {K : PySem.W.Frag} {mg : Str → Option Value} {base : Heap}
theorem ok_draw {f : Addr} {fd : FuncData} (F : Fun K "_law_draw" "_law_draw" s_law_draw f fd) (T : Txt mg) :
    FnG P w K mg base CX0 1 f fd ["_law_stream", "_law_many"] spDraw := by
  refine okG0 F sc_law_draw (fun vs H Q E h => ?_) (fun cdv A outer s H vs Q E hq hr h => ?_)
  · obtain ⟨a, l, n, c, rfl, _⟩ := h
    rfl
  · obtain ⟨a, l, n, c, rfl, n0, n1, c1, S, k⟩ := h
    refine ⟨_, (pss_cons (ps_while PassesOwn.never (PW.pt (pw_and (pt_cmpR op_eq (pe_ix ix_list (pv 0) pe_int (fun _ _ => rfl)) pe_int (nomark _)) (pw_and1 (pt_cmpR (op_neD hr.units) (pe_ix ix_list (pv 0) pe_int (fun _ _ => rfl)) (pe_lst pa_nil) (nomark _)))))
      (pss_cons (ps_asg (pe_bm PySem.F.plainAttrs_list PySem.F.slot_list_pop PySem.F.type_list_pop mt_popAt (pe_ix ix_list (pv 0) pe_int (fun _ _ => rfl)) (pa_cons pe_int pa_nil)) (pg_sub (pv 0) pe_int set_list))
      (pss_one (ps_if (pt_cmpR op_lt (pe_ix ix_list (pv 0) pe_int (fun _ _ => rfl)) (pe_op op_pow pe_int pe_int) (nomark _))
      (pss_cons (ps_asg (pe_op op_mod (pe_callTy call_int1 (by rfl) T.b_int (by decide +kernel) (pa_cons (pe_op op_add (pe_op op_add (pe_op op_mul (pe_ix ix_list (pv 0) pe_int (fun _ _ => rfl)) pe_int) (pe_ix ix_list (pv 0) pe_int (fun _ _ => rfl))) pe_int) pa_nil)) pe_int) (pg_sub (pv 0) pe_int set_list))
      (pss_one (ps_asg pe_int (pg_sub (pv 0) pe_int set_list))))
      pss_nil))))
      (pss_cons (ps_if (pt_cmpR op_gt (pe_ix ix_list (pv 0) pe_int (fun _ _ => rfl)) pe_int (nomark _))
      (pss_cons (ps_set (i := 2) sc_law_draw.nd rfl (Or.inl rfl) (pe_op op_mod (pe_callTy call_int1 (by rfl) T.b_int (by decide +kernel) (pa_cons (pe_ix ix_list (pv 0) pe_int (fun _ _ => rfl)) pa_nil)) (pv 1)))
      (pss_cons (ps_asg (pe_op op_fdivN (pe_ix ix_list (pv 0) pe_int (fun _ _ => rfl)) (pv 1)) (pg_sub (pv 0) pe_int set_list))
      (pss_one (ps_ret (pv 2)))))
      pss_nil)
      (pss_cons (ps_asg (pe_op op_add (pe_ix ix_list (pv 0) pe_int (fun _ _ => rfl)) pe_int) (pg_sub (pv 0) pe_int set_list))
      (pss_cons (ps_set (i := 3) sc_law_draw.nd rfl (Or.inl rfl) (pe_op op_mod (pe_callTy call_int1 (by rfl) T.b_int (by decide +kernel) (pa_cons (pe_op op_pow (pe_op op_add (pe_op op_add (pe_ix ix_list (pv 0) pe_int (fun _ _ => rfl)) (pe_op op_mul pe_int (pe_ix ix_list (pv 0) pe_int (fun _ _ => rfl)))) pe_int) pe_int) pa_nil)) pe_int))
      (pss_cons (ps_set (i := 4) sc_law_draw.nd rfl (Or.inl rfl) (pe_op op_mod (pe_callTy call_int1 (by rfl) T.b_int (by decide +kernel) (pa_cons (pe_op op_pow (pe_op op_add (pe_op op_add (pe_op op_mul (pv 3) pe_int) (pe_op op_mul (pe_op op_mul pe_int (pe_ix ix_list (pv 0) pe_int (fun _ _ => rfl))) (pe_ix ix_list (pv 0) pe_int (fun _ _ => rfl)))) pe_int) pe_int) pa_nil)) pe_int))
      (pss_one (ps_ret (pe_op op_mod (pe_callTy call_int1 (by rfl) T.b_int (by decide +kernel) (pa_cons (pv 4) pa_nil)) (pv 1))))))))), ?_⟩
    obtain ⟨ns, x, kk, m, ha, hl, x0, k0, kc, m0, m1⟩ := S.ex
    refine while_split (fun σ H1 => σ = [some (.ref a), some (.int n), none, none, none] ∧ Nx a l H H1 ∧ ∃ (ns : List Int) (x m : Int),
      H1 a = some (.lst [.ref l, .int x, .int kk, .int m]) ∧ H1 l = some (.lst (ns.map V.int)) ∧ 0 ≤ x ∧ 0 ≤ m ∧ m < 2147483647) ?_ (fun fin => ?_)
    · -- behind the loop
      rintro σ H1 ⟨rfl, nx, ns, x, m, ha, hl, x0, m0, m1⟩
      have hal := strm_ne ha hl
      refine ⟨_, rfl, a, _, _, _, rfl, rfl, SqL.of ha, rfl, _, _, rfl, rfl, _, rfl, ?_⟩
      by_cases hx : (0 : Int) < x
      · refine if1 (decide_eq_true hx) ?_
        refine ⟨_, rfl, a, _, _, _, rfl, rfl, SqL.of ha, rfl, Or.inl ⟨_, rfl, _, rfl, _, _, rfl, rfl, n0, ?_⟩⟩
        refine ⟨_, rfl, a, _, _, _, rfl, rfl, SqL.of ha, rfl, _, rfl, _, _, rfl, rfl, ⟨by omega, by omega⟩, _, rfl, a, _, _, 1, rfl, rfl, ha, rfl, _, rfl, ?_⟩
        refine k _ _ (Int.emod_nonneg _ (by omega)) (Int.emod_lt_of_pos _ n0) ⟨ns, _, kk, m, upd_same, ?_, ?_, k0, by omega, m0, m1⟩ (nx.trans Nx.upd_a)
        · rw [upd_ne hal.symm]
          exact hl
        · exact Int.fdiv_nonneg (by omega) (by omega)
      · refine if0 (decide_eq_false hx) ?_
        refine ⟨_, rfl, a, _, _, _, rfl, rfl, SqL.of ha, rfl, _, _, rfl, rfl, _, rfl, a, _, _, 2, rfl, rfl, ha, rfl, ?_⟩
        have e1 : (upd H1 a (.lst [V.ref l, V.int x, V.int (kk + 1), V.int m])) a = some (.lst [V.ref l, V.int x, V.int (kk + 1), V.int m]) := upd_same
        refine ⟨_, rfl, a, _, _, _, rfl, rfl, SqL.of e1, rfl, _, rfl, a, _, _, _, rfl, rfl, SqL.of e1, rfl, _, _, rfl, rfl, Or.inl ⟨by decide, by decide⟩, _, _, rfl, rfl, _, _, rfl, rfl, _, _, rfl, rfl, ⟨by decide, by decide, ?_⟩,
          Or.inl ⟨_, rfl, _, _, rfl, rfl, (show (0 : Int) < 2147483629 by decide), ?_⟩⟩
        · omega
        have b1 := Int.emod_nonneg ((m + 104729 * (kk + 1) + 17) ^ (5 : Int).toNat) (show (2147483629 : Int) ≠ 0 by decide)
        have b2 := Int.emod_lt_of_pos ((m + 104729 * (kk + 1) + 17) ^ (5 : Int).toNat) (show (0 : Int) < 2147483629 by decide)
        generalize (m + 104729 * (kk + 1) + 17) ^ (5 : Int).toNat % 2147483629 = mx at b1 b2 ⊢
        have b3 : (kk + 1) * (kk + 1) ≤ 4000001 * 4000001 := Int.mul_le_mul (by omega) (by omega) (by omega) (by omega)
        have b4 : 0 ≤ (kk + 1) * (kk + 1) := Int.mul_nonneg (by omega) (by omega)
        have b5 : 40503 * (kk + 1) * (kk + 1) = 40503 * ((kk + 1) * (kk + 1)) := Int.mul_assoc _ _ _
        refine ⟨_, rfl, _, _, rfl, rfl, Or.inl ⟨by omega, by omega⟩, _, rfl, a, _, _, _, rfl, rfl, SqL.of e1, rfl, _, _, rfl, rfl, Or.inl ⟨by decide, by decide⟩, _, rfl, a, _, _, _, rfl, rfl, SqL.of e1, rfl,
          _, _, rfl, rfl, Or.inl ⟨by omega, by omega⟩, _, _, rfl, rfl, _, _, rfl, rfl, _, _, rfl, rfl, ⟨by decide, by decide, ?_⟩, Or.inl ⟨_, rfl, _, _, rfl, rfl, (show (0 : Int) < 1000000007 by decide), ?_⟩⟩
        · omega
        refine ⟨_, rfl, Or.inl ⟨_, rfl, _, rfl, _, _, rfl, rfl, n0, ?_⟩⟩
        refine k _ _ (Int.emod_nonneg _ (by omega)) (Int.emod_lt_of_pos _ n0) ⟨ns, x, kk + 1, m, e1, ?_, x0, by omega, by omega, m0, m1⟩ (nx.trans Nx.upd_a)
        rw [upd_ne hal.symm]
        exact hl
    refine ⟨fun z σ H' => σ = [some (.ref a), some (.int n), none, none, none] ∧ Nx a l H H' ∧ ∃ (ns : List Int) (x m : Int),
      H' a = some (.lst [.ref l, .int x, .int kk, .int m]) ∧ H' l = some (.lst (ns.map V.int)) ∧ 0 ≤ x ∧ 0 ≤ m ∧ m < 2147483647 ∧ z = ns.length,
      ⟨_, rfl, Nx.refl, ns, x, m, ha, hl, x0, m0, m1, rfl⟩, ?_⟩
    rintro z σ H1 ⟨rfl, nx, ns, x, m, ha, hl, x0, m0, m1, rfl⟩
    have hal := strm_ne ha hl
    -- the loop's test
    refine ⟨_, rfl, a, _, _, _, rfl, rfl, SqL.of ha, rfl, rfl, _, rfl, ?_⟩
    by_cases hx : x = 0
    · subst hx
      refine if1 (by decide) ?_
      refine ⟨_, rfl, a, _, _, _, rfl, rfl, SqL.of ha, rfl, (by show 0 ≤ sizeLine; decide), fun p hp => ?_⟩
      have hpa : a ≠ p := ne_of_none ha hp
      have hpl : l ≠ p := ne_of_none hl hp
      have ha2 : upd H1 p (.lst []) a = some (.lst [V.ref l, V.int 0, V.int kk, V.int m]) := by rw [upd_ne hpa]; exact ha
      have hl2 : upd H1 p (.lst []) l = some (.lst (ns.map V.int)) := by rw [upd_ne hpl]; exact hl
      have nx2 : Nx a l H (upd H1 p (.lst [])) := nx.trans (Nx.new hp)
      refine ⟨_, _, .lst (SqL.of hl2) (dpAll_ints ns), .lst (SqL.of upd_same) .nil, shaped_ints ns, rfl, _, rfl, ?_⟩
      rw [eqv_nil]
      cases ns with
      | nil => exact fin _ _ ⟨rfl, nx2, [], 0, m, ha2, hl2, x0, m0, m1⟩
      | cons y r =>
        refine ⟨fun σ' H' => σ' = [some (.ref a), some (.int n), none, none, none] ∧ Nx a l H H' ∧ ∃ (x m : Int),
          H' a = some (.lst [.ref l, .int x, .int kk, .int m]) ∧ H' l = some (.lst (r.map V.int)) ∧ 0 ≤ x ∧ 0 ≤ m ∧ m < 2147483647, ?_, ?_⟩
        · rintro σ' H' ⟨rfl, nx', x, m, h1, h2, h3, h4, h5⟩
          exact ⟨r.length, by simp, rfl, nx', r, x, m, h1, h2, h3, h4, h5, rfl⟩
        · -- stream[1] = stream[0].pop(0)
          refine ⟨_, rfl, a, _, _, _, rfl, rfl, SqL.of ha2, rfl, .inl ⟨rfl, _, SqL.of hl2⟩, l, _, _, 0, _, rfl, rfl, hl2, by decide, by decide, ix0 _ _, rfl, _, rfl, a, [V.ref l, V.int 0, V.int kk, V.int m], _, 1, rfl, rfl, ?_, rfl, ?_⟩
          · rw [upd_ne hal]
            exact ha2
          obtain ⟨H2, e2⟩ : ∃ H2, H2 = upd (upd (upd H1 p (.lst [])) l (.lst (((y :: r).map V.int).eraseIdx 0))) a (.lst ([V.ref l, V.int 0, V.int kk, V.int m].set 1 (V.int y))) := ⟨_, rfl⟩
          have ha3 : H2 a = some (.lst [V.ref l, V.int y, V.int kk, V.int m]) := by rw [e2]; exact upd_same
          have hl3 : H2 l = some (.lst (r.map V.int)) := by rw [e2, upd_ne hal.symm, upd_same]; rfl
          have nx3 : Nx a l H H2 := by rw [e2]; exact (nx2.trans Nx.upd_l).trans Nx.upd_a
          rw [← e2]
          refine ⟨_, rfl, a, _, _, _, rfl, rfl, SqL.of ha3, rfl, _, _, rfl, rfl, ⟨by decide, by decide, by decide⟩, _, _, rfl, rfl, _, rfl, ?_⟩
          by_cases hy : y < 10 ^ (18 : Int).toNat
          · refine if1 (decide_eq_true hy) ?_
            refine ⟨_, rfl, a, _, _, _, rfl, rfl, SqL.of ha3, rfl, _, _, rfl, rfl, Or.inl ⟨by omega, by omega⟩, _, rfl, a, _, _, _, rfl, rfl, SqL.of ha3, rfl, _, _, rfl, rfl, _, _, rfl, rfl, Or.inl ⟨_, rfl, _, _, rfl, rfl, (show (0 : Int) < 2147483647 by decide),
              _, rfl, a, _, _, 3, rfl, rfl, ha3, rfl, ?_⟩⟩
            refine ⟨_, rfl, a, [V.ref l, V.int y, V.int kk, V.int ((m * 31 + y + 7) % 2147483647)], _, 1, rfl, rfl, upd_same, rfl, rfl, (nx3.trans Nx.upd_a).trans Nx.upd_a, _, _, upd_same, ?_, Int.le_refl 0, Int.emod_nonneg _ (by decide), Int.emod_lt_of_pos _ (by decide)⟩
            rw [upd_ne hal.symm, upd_ne hal.symm]
            exact hl3
          · refine if0 (decide_eq_false hy) ?_
            refine ⟨rfl, nx3, y, m, ha3, hl3, ?_, m0, m1⟩
            have : (0 : Int) ≤ 10 ^ (18 : Int).toNat := by decide
            omega
    · have hd : decide (V.int x = V.int 0) = false := decide_eq_false fun e => hx (by cases e; rfl)
      refine if0 hd ?_
      exact fin _ _ ⟨rfl, nx, ns, x, m, ha, hl, x0, m0, m1⟩
end

section
variable {P : Program} {w : World} {K : PySem.W.Frag} {mg : Str → Option Value} {base : Heap}
theorem ok_pickS {f : Addr} {fd : FuncData} (F : Fun K "_law_pick" "_law_pick" s_law_pick f fd) (T : Txt mg) (D_law_draw : Df P w K mg base CX0 1 "_law_draw" spDraw) :
    FnG P w K mg base CX0 2 f fd ["_law_stream", "_law_some"] spPickS := by
  refine okG0 F sc_law_pick (fun vs H Q E h => ?_) (fun cdv A outer s H vs Q E hq hr h => ?_)
  · obtain ⟨a, l, z, c, rfl, _⟩ := h
    rfl
  · obtain ⟨a, l, z, c, rfl, hc, S, h0, hz, k⟩ := h
    refine ⟨_, (pss_one (ps_ret (pe_ix ix_str (pv 1) (pe_df D_law_draw hq hr pass0 (pa_cons (pv 0) (pa_cons (pe_callB call_len (by rfl) T.b_len (by decide +kernel) (pa_cons (pv 1) pa_nil)) pa_nil))) (fun _ _ => rfl)))), ?_⟩
    refine ⟨_, rfl, _, rfl, _, rfl, _, z.length, rfl, ⟨Nat.le_trans (Nat.le_of_lt hz) (by decide), rfl⟩, a, l, _, c, rfl, by omega, by omega, hc, S, fun r H' r0 r1 S' nx => ?_⟩
    obtain ⟨x, hx⟩ : ∃ x, z.cps.toList[r.toNat]? = some x := ⟨_, List.getElem?_eq_getElem (by rw [str_len]; omega)⟩
    refine ⟨z, r, x, rfl, rfl, Nat.le_trans (Nat.le_of_lt hz) (by decide), ?_, k x H' (List.mem_of_getElem? hx) S' nx⟩
    unfold atI ixN
    rw [if_pos r0, str_len, if_pos r1]
    exact hx
theorem ok_text {f : Addr} {fd : FuncData} (F : Fun K "_law_text" "_law_text" s_law_text f fd) (T : Txt mg) (D_law_draw : Df P w K mg base CX0 1 "_law_draw" spDraw) (D_law_pick : Df P w K mg base CX0 2 "_law_pick" spPickS) :
    FnG P w K mg base CX0 3 f fd ["_law_stream"] spText := by
  refine okG0 F sc_law_text (fun vs H Q E h => ?_) (fun cdv A outer s H vs Q E hq hr h => ?_)
  · obtain ⟨a, l, c, rfl, _⟩ := h
    rfl
  · obtain ⟨a, l, c, rfl, hc, S, k⟩ := h
    refine ⟨_, (pss_cons (ps_set (i := 1) sc_law_text.nd rfl (Or.inr rfl) pe_str)
      (pss_cons (ps_set (i := 2) sc_law_text.nd rfl (Or.inl rfl) (pe_lst pa_nil))
      (pss_cons (ps_for PassesOwn.never rfl (pi_range1 rfl T.range (pa_cons (pe_op op_add pe_int (pe_df D_law_draw hq hr pass0 (pa_cons (pv 0) (pa_cons pe_int pa_nil)))) pa_nil)) (pg_name (i := 3) sc_law_text.nd rfl (Or.inl rfl))
      (pss_one (ps_expr (pe_bm PySem.F.plainAttrs_list PySem.F.slot_list_append PySem.F.type_list_append mt_append (pv 2) (pa_cons (pe_join pe_str (pe_lc (own := [("_law_j", 4)]) (by rfl) sc_law_text.nd (pi_range1 rfl T.range (pa_cons (pe_df D_law_draw hq hr pass0 (pa_cons (pv 0) (pa_cons pe_int pa_nil))) pa_nil)) (blkOk_by (own := [("_law_j", 4)]) (N := N_law_text) (sc := defScope s_law_text) (by decide +kernel)) (fun _ _ _ _ _ => (pg_name (i := 4) sc_law_text.nd rfl (Or.inl rfl))) (fun _ _ _ _ _ => pts_nil) (fun _ _ _ _ _ => (pe_df D_law_pick hq hr pass0 (pa_cons (pv 0) (pa_cons (pv 1) pa_nil)))))) pa_nil)))))
      (pss_one (ps_ret (pe_join pe_str (pv 2))))))), ?_⟩
    refine nm ?_
    dsimp only
    obtain ⟨sg, esg⟩ : ∃ sg : Str, sg = "abc (){}[]'\"#:=+*.,0123456789_ABC\\xyz!?$~" := ⟨_, rfl⟩
    have g1 : 0 < sg.length := by rw [esg]; decide +kernel
    have g2 : sg.length < 1000000 := by rw [esg]; decide +kernel
    have g3 : ∀ x ∈ sg.cps.toList, x ≠ 10 ∧ x < 1000 := by rw [esg]; decide +kernel
    rw [← esg]
    clear esg
    refine ⟨by decide, fun p hp => nm ?_⟩
    dsimp only
    have pa : p ≠ a := fun e => S.dom.1 (e ▸ hp)
    have pl : p ≠ l := fun e => S.dom.2 (e ▸ hp)
    have S1 := S.new (o := .lst []) hp
    have nx1 : Nx a l H (upd H p (.lst [])) := Nx.new hp
    have hp1 : (upd H p (.lst [])) p = some (.lst []) := upd_same
    generalize upd H p (.lst []) = H1 at S1 nx1 hp1 ⊢
    refine ⟨_, rfl, a, l, 5, c, rfl, by decide, by decide, by omega, S1, fun t H2 t0 t1 S2 nx2 => ⟨_, _, rfl, rfl, 1 + t, rfl, by omega, by omega, ?_⟩⟩
    refine for_range (lo := 0) (n := (1 + t).toNat) (fun i σ' H' => (∃ s3 s4, σ' = [some (.ref a), some (.str sg), some (.ref p), s3, s4]) ∧ Strm H' a l (c + 1 + 9 * i) ∧ Nx a l H H' ∧ ∃ rows : List Str, H' p = some (.lst (rows.map V.str)) ∧ rows.length = i ∧ ∀ r ∈ rows, r.length ≤ 8 ∧ ∀ x ∈ r.cps.toList, x ≠ 10 ∧ x < 1000)
      ⟨⟨none, none, rfl⟩, S2, nx1.trans nx2, [], nx2.get hp1 pa pl, rfl, fun _ h => nomatch h⟩ (fun i σ' H' hi pv => ?_) (fun σ' H' pv => ?_)
    · obtain ⟨⟨s3, s4, rfl⟩, S', nx', rows, hpr, hlen, hok⟩ := pv
      have hi5 : i < 5 := by omega
      refine nm ?_
      refine ⟨_, rfl, .inl ⟨rfl, _, SqL.of hpr⟩, ⟨_, rfl⟩, _, rfl, a, l, 9, _, rfl, by decide, by decide, by omega, S', fun u H3 u0 u1 S3 nx3 => ⟨u, rfl, by omega, by omega, fun D hD => ?_⟩⟩
      have Da : D ≠ a := fun e => S3.dom.1 (e ▸ hD)
      have Dl : D ≠ l := fun e => S3.dom.2 (e ▸ hD)
      refine lc_range (lo := 0) (n := u.toNat) (fun j H'' => ∃ cs : List Nat, H'' D = some (.lst ((cs.map fun x => (⟨#[x]⟩ : Str)).map V.str)) ∧ cs.length = j ∧ (∀ x ∈ cs, x ∈ sg.cps.toList) ∧ Strm H'' a l (c + 1 + 9 * i + 1 + j) ∧ (∀ b o, H3 b = some o → b ≠ a → b ≠ l → H'' b = some o))
        ⟨[], upd_same, rfl, (fun _ h => nomatch h), S3.new hD, fun b o e _ _ => same_new hD b o e⟩ (fun j H'' hj pv2 => ?_) (fun H'' pv2 => ?_)
      · obtain ⟨cs, hDc, hcl, hcs, Sc, kpc⟩ := pv2
        refine ⟨rfl, yes ⟨_, rfl, _, rfl, a, l, sg, _, rfl, by omega, Sc, g1, g2, fun x H4 hx S4 nx4 => ⟨_, nx4.get hDc Da Dl, ?_, cs ++ [x], ?_, by simp [hcl], ?_, ?_, ?_⟩⟩⟩
        · rw [List.length_map, List.length_map, hcl]
          exact Nat.lt_of_lt_of_le (show j < 9 by omega) (by decide)
        · rw [upd_same, List.map_append, List.map_append]
          rfl
        · intro y hy
          rcases List.mem_append.mp hy with h | h
          · exact hcs y h
          · rw [List.mem_singleton.mp h]; exact hx
        · exact S4.keep (upd_ne Da.symm) (upd_ne Dl.symm)
        · intro b o e n1 n2
          rw [upd_ne (fun z => by rw [z, hD] at e; cases e)]
          exact nx4.get (kpc b o e n1 n2) n1 n2
      · obtain ⟨cs, hDc, hcl, hcs, Sc, kpc⟩ := pv2
        obtain ⟨j1, j2⟩ := join_signs cs
        have hp3 := kpc p _ (nx3.get hpr pa pl) pa pl
        have hu8 : u.toNat ≤ 8 := by omega
        refine ⟨"", D, cs.map fun x => (⟨#[x]⟩ : Str), rfl, rfl, .inl (SqL.of hDc), ?_, p, _, _, rfl, rfl, hp3, ?_, ?_⟩
        · have h1 : ∀ r ∈ cs.map (fun x => (⟨#[x]⟩ : Str)), r.length ≤ 1 := fun r hr => by
            obtain ⟨x, _, rfl⟩ := List.mem_map.mp hr
            exact Nat.le_refl _
          have h2 := sum_le h1
          have h3 : ("" : Str).length = 0 := rfl
          have h4 : (cs.map fun x => (⟨#[x]⟩ : Str)).length = cs.length := List.length_map ..
          rw [h3]
          omega
        · rw [List.length_map, hlen]
          exact Nat.lt_of_lt_of_le hi5 (by decide)
        · refine ⟨⟨_, _, rfl⟩, ?_, ?_, rows ++ [Txt.join "" (cs.map fun x => (⟨#[x]⟩ : Str))], ?_, by simp [hlen], ?_⟩
          · exact (Sc.keep (upd_ne pa.symm) (upd_ne pl.symm)).mono (by omega)
          · intro b o e
            obtain ⟨n1, n2, e'⟩ := off_ne e
            have np : b ≠ p := fun z => by rw [z, hp] at e'; cases e'
            refine off_of ?_ n1 n2
            rw [upd_ne np]
            exact kpc b o ((nx'.trans nx3).get e' n1 n2) n1 n2
          · rw [upd_same, List.map_append]
            rfl
          · intro r hr
            rcases List.mem_append.mp hr with h | h
            · exact hok r h
            · rw [List.mem_singleton.mp h]
              exact ⟨by rw [j1]; omega, fun y hy => g3 y (hcs y (j2 y hy))⟩
    · obtain ⟨⟨s3, s4, rfl⟩, S', nx', rows, hpr, hlen, hok⟩ := pv
      have hr5 : rows.length ≤ 5 := by omega
      refine ⟨⟨_, rfl⟩, _, rfl, "\n", p, rows, rfl, rfl, .inl (SqL.of hpr), ?_, k rows H' (fun e => by rw [e] at hlen; simp at hlen; omega) hr5 hok (S'.mono (by omega)) nx'⟩
      have h2 := sum_le (fun r hr => (hok r hr).1)
      have h3 : ("\n" : Str).length = 1 := rfl
      have h4 : rows.length * 8 ≤ 40 := Nat.mul_le_mul_right 8 hr5
      rw [h3]
      omega
end
end K57

set_option pp.maxSteps 500

namespace K57
open PySem L2 Tq
abbrev s_law_spot : Stmt := top 41
abbrev N_law_spot : List Str := ["_law_stream", "_law_rows", "_law_line", "_law_column", "_law_way"]
theorem sc_law_spot : FnScope N_law_spot ["_law_stream", "_law_rows"] (defScope s_law_spot) := ⟨rfl, rfl, rfl, by decide +kernel, rfl, by decide +kernel, by decide +kernel⟩
section
variable {P : Program} {w : World} {K : PySem.W.Frag} {mg : Str → Option Value} {base : Heap}
theorem ok_pick {f : Addr} {fd : FuncData} (F : Fun K "_law_pick" "_law_pick" s_law_pick f fd) (T : Txt mg) (D_law_draw : Df P w K mg base CX0 1 "_law_draw" spDraw) :
    FnG P w K mg base CX0 2 f fd ["_law_stream", "_law_some"] (spPick K) := by
  refine okG0 F sc_law_pick (fun vs H Q E h => ?_) (fun cdv A outer s H vs Q E hq hr h => ?_)
  · obtain ⟨a, l, p, xs, c, rfl, _⟩ := h
    rfl
  · obtain ⟨a, l, p, xs, c, rfl, hc, S, hp, hne, hz, k⟩ := h
    have hp0 : SqL K H p xs := sqL_same off_sub hp
    have hpos : 0 < xs.length := List.length_pos_iff.mpr hne
    refine ⟨_, (pss_one (ps_ret (pe_ix ix_list (pv 1) (pe_df D_law_draw hq hr pass0 (pa_cons (pv 0) (pa_cons (pe_callB call_len_seq (by rfl) T.b_len (by decide +kernel) (pa_cons (pv 1) pa_nil)) pa_nil))) (fun _ _ => rfl)))), ?_⟩
    refine ⟨_, rfl, _, rfl, _, rfl, p, xs, rfl, .inl hp0, a, l, _, c, rfl, by omega, by omega, hc, S, fun r H' r0 r1 S' nx => ?_⟩
    obtain ⟨v, hv, hm⟩ := atI_mem r0 r1
    exact ⟨p, xs, r, v, rfl, rfl, sqL_same off_sub (sqL_same nx hp), hv, k v H' hm S' nx⟩
end

section
variable {P : Program} {w : World} {K : PySem.W.Frag} {mg : Str → Option Value} {base : Heap}
theorem ok_spot {f : Addr} {fd : FuncData} (F : Fun K "_law_spot" "_law_spot" s_law_spot f fd) (T : Txt mg) (D_law_draw : Df P w K mg base CX0 1 "_law_draw" spDraw) (D_law_pick : Df P w K mg base CX0 2 "_law_pick" (spPick K)) :
    FnG P w K mg base CX0 3 f fd ["_law_stream", "_law_rows"] (spSpot K) := by
  refine okG0 F sc_law_spot (fun vs H Q E h => ?_) (fun cdv A outer s H vs Q E hq hr h => ?_)
  · obtain ⟨a, l, p, c, rows, rfl, _⟩ := h
    rfl
  · obtain ⟨a, l, p, c, rows, rfl, hc, S, hp, hne, hl5, hl8, k⟩ := h
    refine ⟨_, (pss_cons (ps_set (i := 2) sc_law_spot.nd rfl (Or.inl rfl) (pe_op op_add pe_int (pe_df D_law_draw hq hr pass0 (pa_cons (pv 0) (pa_cons (pe_callB call_len_seq (by rfl) T.b_len (by decide +kernel) (pa_cons (pv 1) pa_nil)) pa_nil)))))
      (pss_cons (ps_set (i := 3) sc_law_spot.nd rfl (Or.inl rfl) (pe_df D_law_draw hq hr pass0 (pa_cons (pv 0) (pa_cons (pe_op op_add (pe_callB call_len (by rfl) T.b_len (by decide +kernel) (pa_cons (pe_ix ix_list (pv 1) (pe_op op_sub (pv 2) pe_int) (fun _ _ => rfl)) pa_nil)) pe_int) pa_nil))))
      (pss_cons (ps_set (i := 4) sc_law_spot.nd rfl (Or.inl rfl) (pe_df D_law_draw hq hr pass0 (pa_cons (pv 0) (pa_cons pe_int pa_nil))))
      (pss_cons (ps_if (pt_cmpR op_eq (pv 4) pe_int (nomark _))
      (pss_one (ps_ret (pe_tup (pa_cons (pe_ix ix_list (pe_lst (pa_cons pe_int (pa_cons (pe_un un_neg pe_int) (pa_cons (pe_op op_add (pe_callB call_len_seq (by rfl) T.b_len (by decide +kernel) (pa_cons (pv 1) pa_nil)) pe_int) (pa_cons (pe_op op_add (pv 2) (pe_op op_pow pe_int pe_int)) pa_nil))))) (pe_df D_law_draw hq hr pass0 (pa_cons (pv 0) (pa_cons pe_int pa_nil))) (fun _ _ => rfl)) (pa_cons (pv 3) pa_nil)))))
      pss_nil)
      (pss_cons (ps_if (pt_cmpR op_eq (pv 4) pe_int (nomark _))
      (pss_one (ps_ret (pe_tup (pa_cons (pv 2) (pa_cons (pe_ix ix_list (pe_lst (pa_cons (pe_un un_neg pe_int) (pa_cons (pe_op op_add (pe_callB call_len (by rfl) T.b_len (by decide +kernel) (pa_cons (pe_ix ix_list (pv 1) (pe_op op_sub (pv 2) pe_int) (fun _ _ => rfl)) pa_nil)) pe_int) (pa_cons (pe_op op_pow pe_int pe_int) pa_nil)))) (pe_df D_law_draw hq hr pass0 (pa_cons (pv 0) (pa_cons pe_int pa_nil))) (fun _ _ => rfl)) pa_nil)))))
      pss_nil)
      (pss_cons (ps_if (pt_cmpR op_eq (pv 4) pe_int (nomark _))
      (pss_one (ps_ret (pe_tup (pa_cons (pe_df D_law_pick hq hr pass0 (pa_cons (pv 0) (pa_cons (pe_lst (pa_cons pe_bl (pa_cons pe_str (pa_cons pe_non (pa_cons (pe_tup (pa_cons pe_int pa_nil)) (pa_cons (pe_lst (pa_cons pe_int pa_nil)) pa_nil)))))) pa_nil))) (pa_cons (pv 3) pa_nil)))))
      pss_nil)
      (pss_cons (ps_if (pt_cmpR op_eq (pv 4) pe_int (nomark _))
      (pss_one (ps_ret (pe_tup (pa_cons (pv 2) (pa_cons (pe_df D_law_pick hq hr pass0 (pa_cons (pv 0) (pa_cons (pe_lst (pa_cons pe_bl (pa_cons pe_str (pa_cons pe_non (pa_cons (pe_tup (pa_cons pe_int pa_nil)) (pa_cons (pe_lst (pa_cons pe_int pa_nil)) pa_nil)))))) pa_nil))) pa_nil)))))
      pss_nil)
      (pss_one (ps_ret (pe_tup (pa_cons (pv 2) (pa_cons (pv 3) pa_nil)))))))))))), ?_⟩
    have hp0 : SqL K H p (rows.map V.str) := sqL_same off_sub hp
    have hpos : 0 < rows.length := List.length_pos_iff.mpr hne
    have fin : ∀ (v1 v2 : V) (H4 : Hp) (c4 : Nat), Strm H4 a l c4 → c4 ≤ c + 5 → Nx a l H H4 → Gd K (off a l H4) v1 → Gd K (off a l H4) v2 → ∀ q, H4 q = none → Q (.ref q) (upd H4 q (.tup [v1, v2])) := fun v1 v2 H4 c4 S4 hc4 nx4 g1 g2 q hq => by
      have nq : Nx a l H4 (upd H4 q (.tup [v1, v2])) := Nx.new hq
      exact k q v1 v2 _ (off_of upd_same (fun e => S4.dom.1 (e ▸ hq)) (fun e => S4.dom.2 (e ▸ hq))) (g1.same nq) (g2.same nq) ((S4.new hq).mono hc4) (nx4.trans nq)
    refine ⟨_, rfl, _, rfl, p, _, rfl, .inl hp0, a, l, _, c, rfl, (by rw [List.length_map]; omega), (by rw [List.length_map]; omega), by omega, S, fun r1 H1 r10 r11 S1 nx1 => ⟨_, _, rfl, rfl, nm ?_⟩⟩
    dsimp only
    rw [List.length_map] at r11
    obtain ⟨r, hr⟩ : ∃ r, rows[r1.toNat]? = some r := ⟨_, List.getElem?_eq_getElem (by omega)⟩
    have r8 := hl8 r (List.mem_of_getElem? hr)
    have hat : atI (rows.map V.str) (1 + r1 - 1) = some (.str r) := at_of (j := r1.toNat) (by omega) (by rw [List.getElem?_map, hr]; rfl)
    have hz8 : r.length ≤ sizeLine := Nat.le_trans r8 (by decide)
    have q1 := sqL_same nx1 hp
    refine ⟨_, rfl, _, rfl, _, rfl, _, _, rfl, rfl, p, _, _, .str r, rfl, rfl, sqL_same off_sub q1, hat, _, r.length, rfl, ⟨hz8, rfl⟩, _, _, rfl, rfl, a, l, _, c + 1, rfl, by omega, by omega, by omega, S1, fun r2 H2 r20 r21 S2 nx2 => nm ?_⟩
    dsimp only
    refine ⟨_, rfl, a, l, 12, c + 2, rfl, by decide, by decide, by omega, S2, fun wy H3 w0 w1 S3 nx3 => nm ?_⟩
    dsimp only
    have n3 := (nx1.trans nx2).trans nx3
    have q3 := sqL_same n3 hp
    have q3' : SqL K H3 p (rows.map V.str) := sqL_same off_sub q3
    have gl : ∀ {G : Hp}, Gd K G (.int (1 + r1)) := gd_int (.inl (by omega))
    have gc : ∀ {G : Hp}, Gd K G (.int r2) := gd_int (.inl (by omega))
    refine ⟨_, rfl, rfl, _, rfl, ?_⟩
    by_cases y0 : V.int wy = V.int 0
    · refine if1 (decide_eq_true y0) ⟨_, rfl, _, rfl, p, _, rfl, .inl q3', _, _, rfl, rfl, _, rfl, _, _, rfl, rfl, ⟨by decide, by decide, by decide⟩, _, _, rfl, rfl, (by show 4 ≤ sizeLine; decide), fun g hg => ?_⟩
      have ga : g ≠ a := fun e => S3.dom.1 (e ▸ hg)
      have gll : g ≠ l := fun e => S3.dom.2 (e ▸ hg)
      refine ⟨_, rfl, a, l, 4, c + 3, rfl, by decide, by decide, by omega, S3.new hg, fun r3 H4 r30 r31 S4 nx4 => ?_⟩
      have n4 := (n3.trans (Nx.new hg)).trans nx4
      obtain ⟨v, hv, hm⟩ := atI_mem (xs := [V.int 0, V.int (-1), V.int (((rows.map V.str).length : Int) + 1), V.int (1 + r1 + 10 ^ (9 : Int).toNat)]) r30 r31
      refine ⟨g, _, r3, v, rfl, rfl, SqL.of (nx4.get upd_same ga gll), hv, _, rfl, (by show 2 ≤ sizeLine; decide), fin v _ H4 (c + 4) S4 (by omega) n4 ?_ gc⟩
      rw [List.length_map] at hm
      simp only [List.mem_cons, List.not_mem_nil, or_false] at hm
      rcases hm with e | e | e | e <;> subst e
      · exact gd_int (.inl (by omega))
      · exact gd_int (.inl (by omega))
      · exact gd_int (.inl (by omega))
      · exact gd_int (.inr (by have : (10 : Int) ^ (9 : Int).toNat = 1000000000 := by decide
                               omega))
    refine if0 (decide_eq_false y0) ⟨_, rfl, rfl, _, rfl, ?_⟩
    by_cases y1 : V.int wy = V.int 1
    · refine if1 (decide_eq_true y1) ⟨_, rfl, _, rfl, _, rfl, _, rfl, _, _, rfl, rfl, p, _, _, .str r, rfl, rfl, q3', hat, _, r.length, rfl, ⟨hz8, rfl⟩, _, _, rfl, rfl, _, _, rfl, rfl, ⟨by decide, by decide, by decide⟩, (by show 3 ≤ sizeLine; decide), fun g hg => ?_⟩
      have ga : g ≠ a := fun e => S3.dom.1 (e ▸ hg)
      have gll : g ≠ l := fun e => S3.dom.2 (e ▸ hg)
      refine ⟨_, rfl, a, l, 3, c + 3, rfl, by decide, by decide, by omega, S3.new hg, fun r3 H4 r30 r31 S4 nx4 => ?_⟩
      have n4 := (n3.trans (Nx.new hg)).trans nx4
      obtain ⟨v, hv, hm⟩ := atI_mem (xs := [V.int (-1), V.int ((r.length : Int) + 1), V.int (10 ^ (9 : Int).toNat)]) r30 r31
      refine ⟨g, _, r3, v, rfl, rfl, SqL.of (nx4.get upd_same ga gll), hv, (by show 2 ≤ sizeLine; decide), fin _ v H4 (c + 4) S4 (by omega) n4 gl ?_⟩
      simp only [List.mem_cons, List.not_mem_nil, or_false] at hm
      rcases hm with e | e | e <;> subst e
      · exact gd_int (.inl (by omega))
      · exact gd_int (.inl (by omega))
      · exact gd_int (.inr (by have : (10 : Int) ^ (9 : Int).toNat = 1000000000 := by decide
                               omega))
    refine if0 (decide_eq_false y1) ⟨_, rfl, rfl, _, rfl, ?_⟩
    by_cases y2 : V.int wy = V.int 2
    · refine if1 (decide_eq_true y2) ⟨_, rfl, (by show 1 ≤ sizeLine; decide), fun t1 ht1 => ⟨(by show 1 ≤ sizeLine; decide), fun t2 ht2 => ⟨(by show 5 ≤ sizeLine; decide), fun g hg => ?_⟩⟩⟩
      have St1 := S3.new (o := .tup [V.int 1]) ht1
      have N1 : Nx a l H3 (upd H3 t1 (.tup [V.int 1])) := Nx.new ht1
      have e1 : off a l (upd H3 t1 (.tup [V.int 1])) t1 = some (.tup [V.int 1]) := off_of upd_same (fun e => S3.dom.1 (e ▸ ht1)) (fun e => S3.dom.2 (e ▸ ht1))
      generalize upd H3 t1 (.tup [V.int 1]) = G1 at ht2 hg St1 N1 e1 ⊢
      have St2 := St1.new (o := .lst [V.int 1]) ht2
      have N2 : Nx a l G1 (upd G1 t2 (.lst [V.int 1])) := Nx.new ht2
      have e2 : off a l (upd G1 t2 (.lst [V.int 1])) t2 = some (.lst [V.int 1]) := off_of upd_same (fun e => St1.dom.1 (e ▸ ht2)) (fun e => St1.dom.2 (e ▸ ht2))
      generalize upd G1 t2 (.lst [V.int 1]) = G2 at hg St2 N2 e2 ⊢
      have ga : g ≠ a := fun e => St2.dom.1 (e ▸ hg)
      have gll : g ≠ l := fun e => St2.dom.2 (e ▸ hg)
      have N3 : Nx a l G2 (upd G2 g (.lst [V.bl true, V.str "1", V.non, V.ref t1, V.ref t2])) := Nx.new hg
      refine ⟨a, l, g, [V.bl true, V.str "1", V.non, V.ref t1, V.ref t2], c + 3, rfl, by omega, St2.new hg, SqL.of (off_of upd_same ga gll), by simp, (by show 5 < 1000000000; decide), fun v H4 hm S4 nx4 => ?_⟩
      have n4 := (((n3.trans N1).trans N2).trans N3).trans nx4
      refine ⟨_, rfl, (by show 2 ≤ sizeLine; decide), fin v _ H4 (c + 4) S4 (by omega) n4 ?_ gc⟩
      simp only [List.mem_cons, List.not_mem_nil, or_false] at hm
      rcases hm with e | e | e | e | e <;> subst e
      · exact gd_bl true
      · exact gd_str (.inr rfl)
      · exact gd_non
      · exact gd_tup (((N2.trans N3).trans nx4) _ _ e1) (.inr rfl)
      · exact gd_lst ((N3.trans nx4) _ _ e2) (.inr rfl)
    refine if0 (decide_eq_false y2) ⟨_, rfl, rfl, _, rfl, ?_⟩
    by_cases y3 : V.int wy = V.int 3
    · refine if1 (decide_eq_true y3) ⟨_, rfl, _, rfl, (by show 1 ≤ sizeLine; decide), fun t1 ht1 => ⟨(by show 1 ≤ sizeLine; decide), fun t2 ht2 => ⟨(by show 5 ≤ sizeLine; decide), fun g hg => ?_⟩⟩⟩
      have St1 := S3.new (o := .tup [V.int 0]) ht1
      have N1 : Nx a l H3 (upd H3 t1 (.tup [V.int 0])) := Nx.new ht1
      have e1 : off a l (upd H3 t1 (.tup [V.int 0])) t1 = some (.tup [V.int 0]) := off_of upd_same (fun e => S3.dom.1 (e ▸ ht1)) (fun e => S3.dom.2 (e ▸ ht1))
      generalize upd H3 t1 (.tup [V.int 0]) = G1 at ht2 hg St1 N1 e1 ⊢
      have St2 := St1.new (o := .lst [V.int 0]) ht2
      have N2 : Nx a l G1 (upd G1 t2 (.lst [V.int 0])) := Nx.new ht2
      have e2 : off a l (upd G1 t2 (.lst [V.int 0])) t2 = some (.lst [V.int 0]) := off_of upd_same (fun e => St1.dom.1 (e ▸ ht2)) (fun e => St1.dom.2 (e ▸ ht2))
      generalize upd G1 t2 (.lst [V.int 0]) = G2 at hg St2 N2 e2 ⊢
      have ga : g ≠ a := fun e => St2.dom.1 (e ▸ hg)
      have gll : g ≠ l := fun e => St2.dom.2 (e ▸ hg)
      have N3 : Nx a l G2 (upd G2 g (.lst [V.bl false, V.str "0", V.non, V.ref t1, V.ref t2])) := Nx.new hg
      refine ⟨a, l, g, [V.bl false, V.str "0", V.non, V.ref t1, V.ref t2], c + 3, rfl, by omega, St2.new hg, SqL.of (off_of upd_same ga gll), by simp, (by show 5 < 1000000000; decide), fun v H4 hm S4 nx4 => ?_⟩
      have n4 := (((n3.trans N1).trans N2).trans N3).trans nx4
      refine ⟨(by show 2 ≤ sizeLine; decide), fin _ v H4 (c + 4) S4 (by omega) n4 gl ?_⟩
      simp only [List.mem_cons, List.not_mem_nil, or_false] at hm
      rcases hm with e | e | e | e | e <;> subst e
      · exact gd_bl false
      · exact gd_str (.inl rfl)
      · exact gd_non
      · exact gd_tup (((N2.trans N3).trans nx4) _ _ e1) (.inl rfl)
      · exact gd_lst ((N3.trans nx4) _ _ e2) (.inl rfl)
    refine if0 (decide_eq_false y3) ?_
    exact ⟨_, rfl, _, rfl, (by show 2 ≤ sizeLine; decide), fin _ _ H3 (c + 3) S3 (by omega) n3 gl gc⟩
end
end K57

set_option pp.maxSteps 500

namespace K57
open PySem L2 Tq
abbrev slaw : Stmt := top 43
abbrev Nlaw : List Str := ["_law_script", "_law_stream", "_law_turn", "_law_text_here", "_law_rows", "_law_k", "_law_kind", "_law_first", "_law_last", "_law_node_here", "_law_thing"]
theorem sclaw : FnScope Nlaw ["_law_script"] (defScope slaw) := ⟨rfl, rfl, rfl, by decide +kernel, rfl, by decide +kernel, by decide +kernel⟩
def spLaw (K : PySem.W.Frag) : Sp := fun vs H Q _ => ∃ (s : Addr) (ns : List Int), vs = [.ref s] ∧ SqL K H s (ns.map V.int) ∧ ns.length ≤ 63 ∧ ∀ H', Q (.bl true) H'
section
variable {P : Program} {w : World} {K : PySem.W.Frag} {mg : Str → Option Value} {base : Heap} {C CP CN TE : Addr} {t : Tb}
theorem ok_law {f : Addr} {fd : FuncData} (F : Fun K "law" "law" slaw f fd) (T : Txt mg) (U : Cl57 K mg C CP CN TE) (G : TbOk t) (hk : ∀ z ∈ (["Name", "Module", "Load", "arguments", "Call", "MatchAs", "If"] : List Str), (t.rows z).isSome = true) (D_law_draw : Df P w K mg base CX0 1 "_law_draw" spDraw) (D_law_pick : Df P w K mg base CX0 2 "_law_pick" (spPick K)) (D_law_text : Df P w K mg base CX0 3 "_law_text" spText)
    (D_law_spot : Df P w K mg base CX0 3 "_law_spot" (spSpot K)) (D_law_node : Df P w K mg base CX0 9 "_law_node" (spNode57 t C)) (D_law_tried : Df P w K mg base CX0 4 "_law_tried" (spTried K C)) (D_law_due : Df P w K mg base CX0 2 "_law_due" (spDue K))
    (Dsource_segment : Df P w K mg base (L2.CX P w) 3 "source_segment" (spSeg K C CP CN)) (Dnode : Nd P w K mg base CX0 7 "Node" C "self" "kind" (spInit t C true)) :
    FnG P w K mg base CX0 10 f fd ["_law_script"] (spLaw K) := by
  refine okG0 F sclaw (fun vs H Q E h => ?_) (fun cdv A outer s H vs Q E hq hr h => ?_)
  · obtain ⟨a, ns, rfl, _⟩ := h
    rfl
  · obtain ⟨sa, ns, rfl, hs, hn, k⟩ := h
    refine ⟨_, (pss_cons (ps_set (i := 1) sclaw.nd rfl (Or.inl rfl) (pe_lst (pa_cons (pe_callTy call_list_of (by rfl) T.b_list (by decide +kernel) (pa_cons (pv 0) pa_nil)) (pa_cons pe_int (pa_cons pe_int (pa_cons pe_int pa_nil))))))
      (pss_cons (ps_for PassesOwn.never rfl (pi_range1 rfl T.range (pa_cons pe_int pa_nil)) (pg_name (i := 2) sclaw.nd rfl (Or.inl rfl))
      (pss_cons (ps_set (i := 3) sclaw.nd rfl (Or.inl rfl) (pe_df D_law_text hq hr pass0 (pa_cons (pv 1) pa_nil)))
      (pss_cons (ps_set (i := 4) sclaw.nd rfl (Or.inl rfl) (pe_split (pv 3) pe_str))
      (pss_cons (ps_for PassesOwn.never rfl (pi_range1 rfl T.range (pa_cons pe_int pa_nil)) (pg_name (i := 5) sclaw.nd rfl (Or.inl rfl))
      (pss_cons (ps_set (i := 6) sclaw.nd rfl (Or.inl rfl) (pe_df D_law_pick hq hr pass0 (pa_cons (pv 1) (pa_cons (pe_lst (pa_cons pe_str (pa_cons pe_str (pa_cons pe_str (pa_cons pe_str (pa_cons pe_str (pa_cons pe_str (pa_cons pe_str pa_nil)))))))) pa_nil))))
      (pss_cons (ps_par (i := 7) (j := 8) (by rfl) sclaw.nd rfl rfl (by decide) rfl rfl (pa_cons (pe_df D_law_spot hq hr pass0 (pa_cons (pv 1) (pa_cons (pv 4) pa_nil))) (pa_cons (pe_df D_law_spot hq hr pass0 (pa_cons (pv 1) (pa_cons (pv 4) pa_nil))) pa_nil)) (by rfl))
      (pss_cons (ps_if (PW.pt (pw_and (pt_cmpR op_gt (pe_df D_law_draw hq hr pass0 (pa_cons (pv 1) (pa_cons pe_int pa_nil))) pe_int (nomark _)) (pw_and1 (pt_cmpR op_gt_str (pe_callB (call_repr hq hr) (by rfl) T.b_repr (by decide +kernel) (pa_cons (pv 7) pa_nil)) (pe_callB (call_repr hq hr) (by rfl) T.b_repr (by decide +kernel) (pa_cons (pv 8) pa_nil)) (nomark _)))))
      (pss_one (ps_par (i := 7) (j := 8) (by rfl) sclaw.nd rfl rfl (by decide) rfl rfl (pa_cons (pv 8) (pa_cons (pv 7) pa_nil)) (by rfl)))
      pss_nil)
      (pss_cons (ps_set (i := 9) sclaw.nd rfl (Or.inl rfl) (pe_df D_law_node hq hr pass0 (pa_cons (pv 6) (pa_cons (pv 7) (pa_cons (pv 8) pa_nil)))))
      (pss_cons (ps_if (pt_cmpR op_ne (pe_callB (call_repr hq hr) (by rfl) T.b_repr (by decide +kernel) (pa_cons (pe_df D_law_tried hq hr pass0 (pa_cons (pv 3) (pa_cons (pv 9) pa_nil))) pa_nil)) (pe_callB (call_repr hq hr) (by rfl) T.b_repr (by decide +kernel) (pa_cons (pe_df D_law_due hq hr pass0 (pa_cons (pv 4) (pa_cons (pe_callTy call_list_of (by rfl) T.b_list (by decide +kernel) (pa_cons (pe_op op_catA (pv 7) (pv 8)) pa_nil)) pa_nil))) pa_nil)) (nomark _))
      (pss_one (ps_ret pe_bl))
      pss_nil)
      (pss_one (ps_if (pt_cmpR (op_neD hr.units) (pe_lst (pa_cons (pe_fld (pv 9) rfl) (pa_cons (pe_fld (pv 9) rfl) (pa_cons (pe_fld (pv 9) rfl) (pa_cons (pe_fld (pv 9) rfl) pa_nil))))) (pe_callTy call_list_of (by rfl) T.b_list (by decide +kernel) (pa_cons (pe_op op_catA (pv 7) (pv 8)) pa_nil)) (nomark _))
      (pss_one (ps_ret pe_bl))
      pss_nil))))))))
      (pss_cons (ps_set (i := 10) sclaw.nd rfl (Or.inl rfl) (pe_df D_law_pick hq hr pass0 (pa_cons (pv 1) (pa_cons (pe_lst (pa_cons pe_non (pa_cons pe_int (pa_cons (pv 3) (pa_cons (pe_tup (pa_cons pe_str pa_nil)) (pa_cons (pe_lst (pa_cons (pv 9) pa_nil)) (pa_cons pe_bl (pa_cons (pe_tup (pa_cons pe_int (pa_cons pe_int (pa_cons pe_int (pa_cons pe_int pa_nil))))) pa_nil)))))))) pa_nil))))
      (pss_one (ps_if (PW.pt (pw_or (pt_cmpR (op_neD hr.units) (pe_df D_law_tried hq hr pass0 (pa_cons (pv 3) (pa_cons (pv 10) pa_nil))) (pe_tup (pa_cons pe_str (pa_cons pe_bl pa_nil))) (nomark _)) (pw_or1 (pt_cmpR op_notN (pe_df Dsource_segment hq hr passF (pa_cons (pv 3) (pa_cons (pe_makeW0 Dnode hq hr pass0 (pa_cons pe_str pa_nil)) pa_nil))) pe_non (nomark _)))))
      (pss_one (ps_ret pe_bl))
      pss_nil)))))))
      (pss_one (ps_ret pe_bl)))), ?_⟩
    refine ⟨_, rfl, sa, _, rfl, .inl hs, fun l hl => ⟨(by show 4 ≤ sizeLine; decide), fun a ha => nm ?_⟩⟩
    dsimp only
    have hal : l ≠ a := ne_of_none upd_same ha
    have S1 : Strm (upd (upd H l (.lst (ns.map V.int))) a (.lst [.ref l, .int 0, .int 0, .int 0])) a l 0 := by
      refine ⟨ns, 0, 0, 0, upd_same, ?_, by decide, by decide, by decide, by decide, by decide⟩
      rw [upd_ne hal, upd_same]
    generalize upd (upd H l (.lst (ns.map V.int))) a (.lst [.ref l, .int 0, .int 0, .int 0]) = H1 at S1 ⊢
    refine ⟨4, rfl, by decide, by decide, ?_⟩
    refine for_range (lo := 0) (n := 4) (fun i σ' H' => (∃ s2 s3 s4 s5 s6 s7 s8 s9 s10, σ' = [some (.ref sa), some (.ref a), s2, s3, s4, s5, s6, s7, s8, s9, s10]) ∧ Strm H' a l (300 * i)) ⟨⟨none, none, none, none, none, none, none, none, none, rfl⟩, S1⟩
      (fun i σ' H2 hi pv => ?_) (fun σ' H2 pv => k H2)
    obtain ⟨⟨s2, s3, s4, s5, s6, s7, s8, s9, s10, rfl⟩, S2⟩ := pv
    refine nm ?_
    refine ⟨_, rfl, a, l, 300 * i, rfl, by omega, S2, fun rows H3 hne hl5 hok S3 nx3 => nm ?_⟩
    dsimp only
    have hrow : Txt.split (Txt.join "\n" rows) "\n" = rows := split_rows hne (fun r hr h => ((hok r hr).2 10 h).1 rfl)
    have hlen := join_len_le hne (fun r hr => (hok r hr).1)
    have h45 : rows.length * 9 ≤ 45 := Nat.mul_le_mul_right 9 hl5
    have htx : (Txt.join "\n" rows).length + 2 ≤ sizeLine := Nat.le_trans (Nat.add_le_add_right (Nat.le_trans hlen h45) 2) (by decide)
    refine ⟨_, rfl, ⟨_, rfl⟩, _, "\n", rfl, rfl, rfl, htx, fun p hp => nm ?_⟩
    dsimp only
    rw [hrow]
    have hl100 : rows.length ≤ 100 := by omega
    have h100 : ∀ r ∈ rows, r.length ≤ 100 := fun r hr => Nat.le_trans (hok r hr).1 (by decide)
    have S4 := S3.new (o := .lst (rows.map V.str)) hp
    have q4 : SqL K (off a l (upd H3 p (.lst (rows.map V.str)))) p (rows.map V.str) := SqL.of (off_of upd_same (fun e => S3.dom.1 (e ▸ hp)) (fun e => S3.dom.2 (e ▸ hp)))
    generalize upd H3 p (.lst (rows.map V.str)) = H4 at S4 q4 ⊢
    obtain ⟨tx, etx⟩ : ∃ tx, tx = Txt.join "\n" rows := ⟨_, rfl⟩
    rw [← etx] at hrow htx ⊢
    clear etx hlen
    -- the five nodes
    refine ⟨5, rfl, by decide, by decide, ?_⟩
    refine for_range (lo := 0) (n := 5) (fun j σ' G => (∃ s2 s5 s6 s7 s8 s9 s10, σ' = [some (.ref sa), some (.ref a), s2, some (.str tx), some (.ref p), s5, s6, s7, s8, s9, s10] ∧ (0 < j → ∃ v, s9 = some v)) ∧ Strm G a l (300 * i + 50 + 20 * j) ∧ SqL K (off a l G) p (rows.map V.str))
      ⟨⟨_, _, _, _, _, _, _, rfl, fun h => absurd h (by decide)⟩, S4, q4⟩ (fun j σ' G1 hj pv => ?_) (fun σ' G1 pv => ?_)
    · obtain ⟨⟨s2, s5, s6, s7, s8, s9, s10, rfl, _⟩, T1, p1⟩ := pv
      refine nm ?_
      refine ⟨_, rfl, (by show 7 ≤ sizeLine; decide), fun g hg => ⟨a, l, g, (["Name", "Module", "Load", "arguments", "Call", "MatchAs", "If"] : List Str).map V.str, 300 * i + 50 + 20 * j, rfl, by omega, T1.new hg, SqL.of (off_of upd_same (fun e => T1.dom.1 (e ▸ hg)) (fun e => T1.dom.2 (e ▸ hg))), by simp, (by show 7 < 1000000000; decide), fun v G2 hm T2 n2 => nm ?_⟩⟩
      dsimp only
      obtain ⟨z, hzm, rfl⟩ := List.mem_map.mp hm
      obtain ⟨rws, hz⟩ := Option.isSome_iff_exists.mp (hk z hzm)
      have p2 := sqL_same ((Nx.new hg).trans n2) p1
      refine ⟨_, rfl, _, rfl, a, l, p, 300 * i + 50 + 20 * j + 1, rows, rfl, by omega, T2, p2, hne, hl5, fun r hr => (hok r hr).1, fun q1 v0 v1 G3 hq1 g0 g1 T3 n3 => ?_⟩
      have p3 := sqL_same n3 p2
      refine ⟨_, rfl, _, rfl, a, l, p, 300 * i + 50 + 20 * j + 6, rows, rfl, by omega, T3, p3, hne, hl5, fun r hr => (hok r hr).1, fun q2 v2 v3 G4 hq2 g2 g3 T4 n4 => ⟨_, _, rfl, ?_⟩⟩
      have p4 := sqL_same n4 p3
      dsimp only
      refine seq_if (fun σ G => ∃ (qa qb : Addr) (v0 v1 v2 v3 : V), σ = [some (.ref sa), some (.ref a), s2, some (.str tx), some (.ref p), some (.int (0 + j)), some (.str z), some (.ref qa), some (.ref qb), s9, s10] ∧
        off a l G qa = some (.tup [v0, v1]) ∧ off a l G qb = some (.tup [v2, v3]) ∧ Gd K (off a l G) v0 ∧ Gd K (off a l G) v1 ∧ Gd K (off a l G) v2 ∧ Gd K (off a l G) v3 ∧ Strm G a l (300 * i + 50 + 20 * j + 12) ∧ SqL K (off a l G) p (rows.map V.str)) ?_ (fun fin => ?_)
      · rintro σ G5 ⟨qa, qb, v0, v1, v2, v3, rfl, ea, eb, g0, g1, g2, g3, T5, p5⟩
        have qa5 := off_sub _ _ ea
        have qb5 := off_sub _ _ eb
        refine ⟨_, rfl, _, rfl, _, rfl, z, rws, qa, qb, v0, v1, v2, v3, rfl, hz, qa5, qb5, fun x dx hh G6 s6' hx0 hx => nm ?_⟩
        dsimp only
        have N6 : Nx a l G5 G6 := Nx.of_same s6'
        have T6 : Strm G6 a l (300 * i + 50 + 20 * j + 12) := T5.keep (by
          obtain ⟨o, ho⟩ := Option.ne_none_iff_exists'.mp T5.dom.1
          rw [ho, s6' a _ ho]) (by
          obtain ⟨o, ho⟩ := Option.ne_none_iff_exists'.mp T5.dom.2
          rw [ho, s6' l _ ho])
        obtain ⟨d0, a0, b0, c0⟩ := (g0.same off_sub).same s6'
        obtain ⟨d1, a1, b1, c1⟩ := (g1.same off_sub).same s6'
        obtain ⟨d2, a2, b2, c2⟩ := (g2.same off_sub).same s6'
        obtain ⟨d3, a3, b3, c3⟩ := (g3.same off_sub).same s6'
        obtain ⟨sh1, sh2⟩ := shaped4 b0 b1 b2 b3 c0 c1 c2 c3
        have pp := sqL_same (Same.trans off_sub s6') p5
        have pl := ans_plain (d0 := d0) (d1 := d1) (d2 := d2) (d3 := d3) hne hl5 hok
        refine ⟨_, rfl, _, rfl, tx, .ref x, rows, rfl, hrow, htx, hl100, h100, .inr ⟨x, dx, _, hh, v0, v1, v2, v3, d0, d1, d2, d3, rfl, hx, a0, a1, a2, a3, sh1, fun b G7 s7' dp7 => ?_⟩⟩
        rw [← due_seg] at dp7
        refine ⟨b, _, rfl, dp7, pl.sh, pl.nd, Nat.le_trans pl.dp (by decide), pl.shown (Nat.le_refl _), _, rfl, _, rfl, _, rfl, ?_⟩
        refine catA_to (.inl (.inl ((s6'.trans s7') _ _ qa5))) (.inl (.inl ((s6'.trans s7') _ _ qb5))) (by show 4 ≤ sizeLine; decide) fun e G8 s8' sq8 => ⟨e, _, rfl, .inr sq8, fun ls hls => ?_⟩
        have s9' := (s7'.trans s8').trans (same_new (o := .lst ([v0, v1] ++ [v2, v3])) hls)
        refine ⟨p, ls, rows, v0, v1, v2, v3, d0, d1, d2, d3, rfl, sqL_same s9' pp, SqL.of upd_same, dp_same s9' _ _ a0, dp_same s9' _ _ a1, dp_same s9' _ _ a2, dp_same s9' _ _ a3, sh2, hl100, h100, fun b2 G9 sx dp9 => ?_⟩
        refine ⟨b2, _, rfl, dp9, pl.sh, pl.nd, Nat.le_trans pl.dp (by decide), pl.shown (Nat.le_refl _), rfl, _, rfl, if0 (by rw [decide_eq_true rfl]; rfl) ?_⟩
        have sA := s9'.trans sx
        have hx9 := sA x _ hx
        refine ⟨_, rfl, x, C, dx, _, _, rfl, hx9, U.nd.cls, U.nd.no _ (by simp), rfl, _, rfl, x, C, dx, _, _, rfl, hx9, U.nd.cls, U.nd.no _ (by simp), rfl, _, rfl, x, C, dx, _, _, rfl, hx9, U.nd.cls, U.nd.no _ (by simp), rfl, _, rfl, x, C, dx, _, _, rfl, hx9, U.nd.cls, U.nd.no _ (by simp), rfl, (by show 4 ≤ sizeLine; decide), fun m hm' => ⟨_, rfl, _, rfl, ?_⟩⟩
        have sB := sA.trans (same_new (o := .lst [v0, v1, v2, v3]) hm')
        have hm9 : (upd G9 m (.lst [v0, v1, v2, v3])) m = some (.lst [v0, v1, v2, v3]) := upd_same
        generalize upd G9 m (.lst [v0, v1, v2, v3]) = G10 at sB hm9 ⊢
        refine catA_to (.inl (.inl ((s6'.trans sB) _ _ qa5))) (.inl (.inl ((s6'.trans sB) _ _ qb5))) (by show 4 ≤ sizeLine; decide) fun e2 G11 s11 sq11 => ⟨e2, _, rfl, .inr sq11, fun ls2 hls2 => ?_⟩
        have sC := s11.trans (same_new (o := .lst ([v0, v1] ++ [v2, v3])) hls2)
        have sD := sB.trans sC
        have dp4 : DpAll K (upd G11 ls2 (.lst ([v0, v1] ++ [v2, v3]))) [v0, v1, v2, v3] [d0, d1, d2, d3] := .cons (dp_same sD _ _ a0) (.cons (dp_same sD _ _ a1) (.cons (dp_same sD _ _ a2) (.cons (dp_same sD _ _ a3) .nil)))
        refine ⟨.list [d0, d1, d2, d3], .list [d0, d1, d2, d3], .lst (SqL.of (sC _ _ hm9)) dp4, .lst (SqL.of upd_same) dp4, sh2, sh2, _, rfl, if0 ?_ ?_⟩
        · rw [SeqAt.eqv_refl _ (SeqAt.canLay_of_shaped sh2)]
          rfl
        have sE := s6'.trans sD
        have N12 : Nx a l G5 (upd G11 ls2 (.lst ([v0, v1] ++ [v2, v3]))) := Nx.of_same sE
        refine ⟨⟨_, _, _, _, _, _, _, rfl, fun _ => ⟨_, rfl⟩⟩, (T5.keep ?_ ?_).mono (by omega), sqL_same N12 p5⟩
        · obtain ⟨o, ho⟩ := Option.ne_none_iff_exists'.mp T5.dom.1
          rw [ho, sE a _ ho]
        · obtain ⟨o, ho⟩ := Option.ne_none_iff_exists'.mp T5.dom.2
          rw [ho, sE l _ ho]
      · refine ⟨_, rfl, a, l, 4, 300 * i + 50 + 20 * j + 11, rfl, by decide, by decide, by omega, T4, fun r G5 r0 r1 T5 n5 => ⟨_, _, rfl, rfl, _, rfl, ?_⟩⟩
        have ea := (n4.trans n5) _ _ hq1
        have eb := n5 _ _ hq2
        have g0' := g0.same (n4.trans n5)
        have g1' := g1.same (n4.trans n5)
        have g2' := g2.same n5
        have g3' := g3.same n5
        have p5 := sqL_same n5 p4
        by_cases hr0 : (0 : Int) < r
        · obtain ⟨da, pa, la⟩ := gd_pair ea g0' g1'
          obtain ⟨db, pb, lb⟩ := gd_pair eb g2' g3'
          refine if1 (decide_eq_true hr0) ⟨_, rfl, q1, da, rfl, dp_same off_sub _ _ pa, la.sh, la.nd, Nat.le_trans la.dp (by decide), la.shown (by decide), _, rfl, q2, db, rfl, dp_same off_sub _ _ pb, lb.sh, lb.nd, Nat.le_trans lb.dp (by decide), lb.shown (by decide), _, _, rfl, rfl, _, rfl, ?_⟩
          by_cases hlt : db.shown.cps.toList < da.shown.cps.toList
          · exact if1 (decide_eq_true hlt) ⟨_, rfl, _, rfl, _, _, rfl, fin _ _ ⟨q2, q1, v2, v3, v0, v1, rfl, eb, ea, g2', g3', g0', g1', T5, p5⟩⟩
          · exact if0 (decide_eq_false hlt) (fin _ _ ⟨q1, q2, v0, v1, v2, v3, rfl, ea, eb, g0', g1', g2', g3', T5, p5⟩)
        · exact if0 (decide_eq_false hr0) (if0 rfl (fin _ _ ⟨q1, q2, v0, v1, v2, v3, rfl, ea, eb, g0', g1', g2', g3', T5, p5⟩))
    · obtain ⟨⟨s2, s5, s6, s7, s8, s9, s10, rfl, h9⟩, T1, p1⟩ := pv
      obtain ⟨v9, rfl⟩ := h9 (by decide)
      refine ⟨_, rfl, _, rfl, (by show 1 ≤ sizeLine; decide), fun u1 hu1 => ⟨_, rfl, (by show 1 ≤ sizeLine; decide), fun u2 hu2 => ⟨(by show 4 ≤ sizeLine; decide), fun u3 hu3 => ⟨(by show 7 ≤ sizeLine; decide), fun g hg => ?_⟩⟩⟩⟩
      have St1 := T1.new (o := .tup [V.str "Name"]) hu1
      have e1 : off a l (upd G1 u1 (.tup [V.str "Name"])) u1 = some (.tup [V.str "Name"]) := off_of upd_same (fun e => T1.dom.1 (e ▸ hu1)) (fun e => T1.dom.2 (e ▸ hu1))
      generalize upd G1 u1 (.tup [V.str "Name"]) = G2 at hu2 hu3 hg St1 e1 ⊢
      have St2 := St1.new (o := .lst [v9]) hu2
      have N2 : Nx a l G2 (upd G2 u2 (.lst [v9])) := Nx.new hu2
      have e2 : off a l (upd G2 u2 (.lst [v9])) u2 = some (.lst [v9]) := off_of upd_same (fun e => St1.dom.1 (e ▸ hu2)) (fun e => St1.dom.2 (e ▸ hu2))
      generalize upd G2 u2 (.lst [v9]) = G3 at hu3 hg St2 N2 e2 ⊢
      have St3 := St2.new (o := .tup [V.int 1, V.int 0, V.int 1, V.int 1]) hu3
      have N3 : Nx a l G3 (upd G3 u3 (.tup [V.int 1, V.int 0, V.int 1, V.int 1])) := Nx.new hu3
      have e3 : off a l (upd G3 u3 (.tup [V.int 1, V.int 0, V.int 1, V.int 1])) u3 = some (.tup [V.int 1, V.int 0, V.int 1, V.int 1]) := off_of upd_same (fun e => St2.dom.1 (e ▸ hu3)) (fun e => St2.dom.2 (e ▸ hu3))
      generalize upd G3 u3 (.tup [V.int 1, V.int 0, V.int 1, V.int 1]) = G4 at hg St3 N3 e3 ⊢
      refine ⟨a, l, g, [V.non, V.int 0, V.str tx, V.ref u1, V.ref u2, V.bl true, V.ref u3], _, rfl, by omega, St3.new hg, SqL.of (off_of upd_same (fun e => St3.dom.1 (e ▸ hg)) (fun e => St3.dom.2 (e ▸ hg))), by simp, (by show 7 < 1000000000; decide), fun v G5 hm T5 n5 => nm ?_⟩
      dsimp only
      have n4 : Nx a l G4 G5 := (Nx.new hg).trans n5
      obtain ⟨ty, hty, hkt⟩ : ∃ ty, TyX K G5 v ty ∧ PySem.W.kitOne K ty (.ref C) = some false := by
        simp only [List.mem_cons, List.not_mem_nil, or_false] at hm
        rcases hm with e | e | e | e | e | e | e <;> subst e
        · exact ⟨_, .base .non, U.no (t := "NoneType") (by decide +kernel)⟩
        · exact ⟨_, .base (.int 0), U.no (t := "int") (by decide +kernel)⟩
        · exact ⟨_, .base (.str tx), U.no (t := "str") (by decide +kernel)⟩
        · exact ⟨_, .base (.tup (off_sub _ _ (((N2.trans N3).trans n4) _ _ e1))), U.no (t := "tuple") (by decide +kernel)⟩
        · exact ⟨_, .base (.lst (off_sub _ _ ((N3.trans n4) _ _ e2))), U.no (t := "list") (by decide +kernel)⟩
        · exact ⟨_, .base (.bl true), U.no (t := "bool") (by decide +kernel)⟩
        · exact ⟨_, .base (.tup (off_sub _ _ (n4 _ _ e3))), U.no (t := "tuple") (by decide +kernel)⟩
      refine ⟨_, rfl, _, rfl, tx, v, rows, rfl, hrow, htx, hl100, h100, .inl ⟨ty, hty, hkt, fun b G6 s6' dp6 => ⟨by decide, fun u hu => ?_⟩⟩⟩
      have s7' := s6'.trans (same_new (o := .tup [V.str "node", V.bl true]) hu)
      refine ⟨.tuple [.str "node", .bool true], .tuple [.str "node", .bool true], dp_same (same_new hu) _ _ dp6, dp_pair hu (.str _) (.bl _), by decide +kernel, by decide +kernel, _, rfl, if0 (by decide +kernel) ?_⟩
      generalize upd G6 u (.tup [V.str "node", V.bl true]) = G7 at s7' ⊢
      obtain ⟨rws, hz⟩ := Option.isSome_iff_exists.mp (hk "Name" (.head _))
      refine ⟨_, rfl, .str "Name", [], rfl, by decide, rfl, fun x dx pp d hx hdx nx hp hd px pdx xd ddx dp => ?_⟩
      refine ⟨x, dx, pp, d, "Name", rws, [], [], rfl, ?_, ?_, upd_same, hz, (fun h => nomatch h), Nat.zero_le _, Nat.zero_le _, List.nodup_nil, (fun _ h => nomatch h), fun hh hd' fps H' M => ⟨rfl, ?_⟩⟩
      · rw [upd_ne xd.symm, upd_ne px.symm, upd_same]
      · rw [upd_ne dp.symm, upd_same]
      have e0 : kdOf (rws.map rowN) [] = [] := List.zip_nil_right
      have mn := M.node
      rw [e0] at mn
      refine ⟨tx, .ref x, rows, rfl, hrow, htx, hl100, h100, .inr ⟨x, dx, _, hh, .non, .non, .non, .non, .none, .none, .none, .none, rfl, mn, .non, .non, .non, .non, by decide +kernel, (fun e => nomatch e), fun _ H'' s'' => ⟨rfl, _, rfl, if0 rfl ?_⟩, fun z e => nomatch e⟩⟩
      have kp : ∀ b o, G5 b = some o → H'' b = some o := fun b o e => by
        have e7 := s7' b o e
        have ne : ∀ {c : Addr}, G7 c = none → b ≠ c := fun hc q => by rw [q, hc] at e7; cases e7
        refine s'' b o (M.keep b o ?_ (ne hx))
        rw [upd_ne (ne hd), upd_ne (ne hp), upd_ne (ne hx), upd_ne (ne hdx)]
        exact e7
      refine ⟨⟨_, _, _, _, _, _, _, _, _, rfl⟩, (T5.keep ?_ ?_).mono (by omega)⟩
      · obtain ⟨o, ho⟩ := Option.ne_none_iff_exists'.mp T5.dom.1
        rw [ho, kp a _ ho]
      · obtain ⟨o, ho⟩ := Option.ne_none_iff_exists'.mp T5.dom.2
        rw [ho, kp l _ ho]
end
end K57

namespace K57
open PySem L2 Tq
def nm57 : List (Str × List Str) := [nameRows (top 7), nameRows (top 8), nameRows (top 14), nameRows (top 15), nameRows (top 16), nameRows (top 17), nameRows (top 18)]
def tb57 : Tb := ⟨dictRows nm57 (top 9), dictRows nm57 (top 10), dictRows nm57 (top 11), dictRows nm57 (top 12), dictRows nm57 (top 13), dictRows nm57 (top 19)⟩
theorem tb57_ok : TbOk tb57 := tbB_ok (by decide +kernel)
theorem tb57_kinds : ∀ z ∈ (["Name", "Module", "Load", "arguments", "Call", "MatchAs", "If"] : List Str), (tb57.rows z).isSome = true := by decide +kernel
end K57

namespace K57
open PySem L2 Tq
def ks57_1 : List Str := ["FunctionDef", "AsyncFunctionDef", "ClassDef", "Return", "Delete", "Assign", "AugAssign", "AnnAssign", "For", "AsyncFor", "While", "If", "With", "AsyncWith", "Match", "Raise", "Assert", "Try", "Import", "ImportFrom", "Global", "Nonlocal", "Expr", "Pass", "Break", "Continue"]
def ks57_2 : List Str := ["BoolOp", "NamedExpr", "BinOp", "UnaryOp", "Lambda", "IfExp", "Dict", "Set", "ListComp", "SetComp", "DictComp", "GeneratorExp", "Await", "Yield", "YieldFrom", "Compare", "Call", "FormattedValue", "JoinedStr", "Constant", "Attribute", "Subscript", "Starred", "Name", "List", "Tuple", "Slice"]
def ks57_3 : List Str := ["MatchValue", "MatchSingleton", "MatchSequence", "MatchMapping", "MatchClass", "MatchStar", "MatchAs", "MatchOr"]
def ks57_4 : List Str := ["ExceptHandler", "arg", "keyword", "alias"]
def ks57_5 : List Str := ["Module", "Expression", "comprehension", "arguments", "withitem", "match_case"]
def ks57_6 : List Str := ["BOOLEAN", "OPERATOR", "UNARY", "COMPARISON", "CONTEXT"]
theorem kt_mk {K : PySem.W.Frag} {h : Heap} {mg : Str → Option Value} {TE : Addr} {q : Str} {N : Addr} {bs bm : List Value} {hd : Bool} {sn : List Str} {sub : List Value} {ab : Bool} {col : Option Bool} {dd : Option Addr}
    {k0 k1 k2 k3 k5 : Option Value} (X : K.In h) (G : h.Ns mainGlobals mg) (a : PySem.W.nsIn K mainGlobals "TreeError" = some (some (.ref TE)))
    (l : K.lookup TE = some (excClassObj "TreeError" q TE N bs bm hd sn sub ab col dd k0 k1 k2 k3 k5 "ValueError.__new__")) (t : PySem.W.typeIn K (.ref TE) = some (.type "type")) : Tq.KT K mg TE := by
  refine ⟨PySem.W.mg_of X G a, ?_, t, ⟨_, l, fun nm q' N' bs' bm' h' sn' sub' ab' col' dd' k0' k1' k2' k3' k5' e => ?_⟩⟩
  · unfold PySem.W.clsIn
    rw [l]
    rfl
  · have e2 := congrArg (·.data) e
    simp only [excClassObj] at e2
    injection e2 with e2
    injection e2 with e2
    exact e2.symm
/-- Node as the top has made it -/
structure NdF (K : PySem.W.Frag) (mg : Str → Option Value) (C : Addr) : Prop where
  g : mg "Node" = some (.ref C)
  nd : NdC K C
  ha : PySem.W.findIn K (.ref C) "__class__" = some (some (.builtin "object.__class__"))
  hn : PySem.W.specialIn K (.builtin "object.__class__") "__get__" = some (some (.builtin "getset_descriptor.__get__"))
  htk : PySem.W.takesIn K (.builtin "object.__class__") = some true
  hm : PySem.W.mroIn K C (.type "object") = some true
  kc : (PySem.W.clsIn K C).isSome = true
  ty : PySem.W.typeIn K (.ref C) = some (.type "type")
  ini : ∃ (f : Addr) (fd : FuncData), Mk K C f ∧ Fun K "__init__" "Node.__init__" sNode___init__ f fd
theorem ndf_mk {K : PySem.W.Frag} {h : Heap} {mg : Str → Option Value} {C f : Addr} {oc : Value} {od an : Option Addr} {osl : Array (Option Value)} {kV doc pm cdv ct : Value} (X : K.In h) (G : h.Ns mainGlobals mg) (a : PySem.W.nsIn K mainGlobals "Node" = some (some (.ref C)))
    (fa : PySem.W.findIn K (.ref C) "__init__" = some (some (.ref f)))
    (c1 : PySem.W.plainGet K C Str.empty = true) (c2 : PySem.W.hasDictIn K C = true) (c3 : PySem.W.plainOver K C = true) (c4 : PySem.W.findIn K (.ref C) "__setattr__" = some (some (.builtin "object.__setattr__")))
    (n0 : PySem.W.findIn K (.ref C) "kind" = some none) (n1 : PySem.W.findIn K (.ref C) "held" = some none) (n2 : PySem.W.findIn K (.ref C) "lineno" = some none) (n3 : PySem.W.findIn K (.ref C) "col_offset" = some none) (n4 : PySem.W.findIn K (.ref C) "end_lineno" = some none) (n5 : PySem.W.findIn K (.ref C) "end_col_offset" = some none)
    (ha : PySem.W.findIn K (.ref C) "__class__" = some (some (.builtin "object.__class__"))) (hn : PySem.W.specialIn K (.builtin "object.__class__") "__get__" = some (some (.builtin "getset_descriptor.__get__")))
    (htk : PySem.W.takesIn K (.builtin "object.__class__") = some true) (hm : PySem.W.mroIn K C (.type "object") = some true) (ty : PySem.W.typeIn K (.ref C) = some (.type "type"))
    (mk : PySem.W.makesIn K C = true) (fn : PySem.W.isFn K (.ref f) = true) (kp : PySem.W.keepIn K (.ref C) = true)
    (l : K.lookup f = some ⟨oc, od, .func (PySem.W.fnOf "__init__" "Node.__init__" (defArgs sNode___init__) (defBody sNode___init__) (defScope sNode___init__) .none kV doc pm an cdv ct), osl⟩)
    (c : PySem.W.codeIn K cdv "Node.__init__" = true) (k : PySem.W.keepIn K (.ref f) = true) : NdF K mg C := by
  refine ⟨PySem.W.mg_of X G a, ⟨⟨c1, c2, c3, c4⟩, fun x hx => ?_⟩, ha, hn, htk, hm, ?_, ty, ⟨f, _, ⟨mk, fa, fn, kp⟩, fun_mk l c k⟩⟩
  · simp only [List.mem_cons, List.not_mem_nil, or_false] at hx
    rcases hx with e | e | e | e | e | e <;> subst e <;> assumption
  · obtain ⟨cd, hc, _⟩ := PySem.W.any_some c2
    rw [hc]
    rfl

theorem all57 {l : PySem.W.OpenLaw} {w : World} {K : PySem.W.Frag} {h : Heap} {mg : Str → Option Value} {fa C CP CN TE d1 d2 d3 d4 d5 d6 d7 : Addr} (X : K.In h) (G : h.Ns mainGlobals mg) (hfa : mg "law" = some (.ref fa))
    (n_int : PySem.W.nsIn K mainGlobals "int" = some none)
    (n_len : PySem.W.nsIn K mainGlobals "len" = some none)
    (n_list : PySem.W.nsIn K mainGlobals "list" = some none)
    (n_tuple : PySem.W.nsIn K mainGlobals "tuple" = some none)
    (n_repr : PySem.W.nsIn K mainGlobals "repr" = some none)
    (n_str : PySem.W.nsIn K mainGlobals "str" = some none)
    (n_any : PySem.W.nsIn K mainGlobals "any" = some none)
    (n_dict : PySem.W.nsIn K mainGlobals "dict" = some none)
    (n_zip : PySem.W.nsIn K mainGlobals "zip" = some none)
    (n_bool : PySem.W.nsIn K mainGlobals "bool" = some none)
    (n_range : PySem.W.nsIn K mainGlobals "range" = some none)
    (n_isinstance : PySem.W.nsIn K mainGlobals "isinstance" = some none)
    (te : Tq.KT K mg TE) (kp : Kl K mg "BadPlace" CP TE) (kn : Kl K mg "BadNode" CN TE)
    (qp : PySem.W.excIn K CP [.type "ValueError", .type "Exception", .type "BaseException", .type "object"] "ValueError.__new__" = true)
    (qn : PySem.W.excIn K CN [.type "ValueError", .type "Exception", .type "BaseException", .type "object"] "ValueError.__new__" = true)
    (nd : NdF K mg C)
    (m1 : PySem.W.nsIn K mainGlobals "STATEMENTS" = some (some (.ref d1))) (t1a : He.dicW K d1 = some (He.keysIn w.params ks57_1)) (t1b : stabB K d1 tb57.st = true)
    (m2 : PySem.W.nsIn K mainGlobals "EXPRESSIONS" = some (some (.ref d2))) (t2a : He.dicW K d2 = some (He.keysIn w.params ks57_2)) (t2b : stabB K d2 tb57.ex = true)
    (m3 : PySem.W.nsIn K mainGlobals "PATTERNS" = some (some (.ref d3))) (t3a : He.dicW K d3 = some (He.keysIn w.params ks57_3)) (t3b : stabB K d3 tb57.pa = true)
    (m4 : PySem.W.nsIn K mainGlobals "PARTS" = some (some (.ref d4))) (t4a : He.dicW K d4 = some (He.keysIn w.params ks57_4)) (t4b : stabB K d4 tb57.pr = true)
    (m5 : PySem.W.nsIn K mainGlobals "PLACELESS" = some (some (.ref d5))) (t5a : He.dicW K d5 = some (He.keysIn w.params ks57_5)) (t5b : stabB K d5 tb57.pl = true)
    (m6 : PySem.W.nsIn K mainGlobals "GROUPS" = some (some (.ref d6))) (t6a : He.dicW K d6 = some (He.keysIn w.params ks57_6)) (t6b : stabB K d6 tb57.gr = true)
    (m7 : PySem.W.nsIn K mainGlobals "PLACE" = some (some (.ref d7))) (t7 : ktxB K d7 places = true)
    (ftable_of : Fn1 K mg "table_of" stable_of)
    (fsplit_fields : Fn1 K mg "split_fields" ssplit_fields)
    (fis_integer : Fn1 K mg "is_integer" sis_integer)
    (ffields_of : Fn1 K mg "fields_of" sfields_of)
    (fstart_value : Fn1 K mg "start_value" sstart_value)
    (fchecked_node : Fn1 K mg "checked_node" schecked_node)
    (fplace_of : Fn1 K mg "place_of" splace_of)
    (fis_place : Fn1 K mg "is_place" sis_place)
    (fsource_segment : Fn1 K mg "source_segment" ssource_segment)
    (f_law_draw : Fn1 K mg "_law_draw" s_law_draw)
    (f_law_pick : Fn1 K mg "_law_pick" s_law_pick)
    (f_law_due : Fn1 K mg "_law_due" s_law_due)
    (f_law_node : Fn1 K mg "_law_node" s_law_node)
    (f_law_tried : Fn1 K mg "_law_tried" s_law_tried)
    (f_law_text : Fn1 K mg "_law_text" s_law_text)
    (f_law_spot : Fn1 K mg "_law_spot" s_law_spot)
    (f_law_is_spot : Fn1 K mg "_law_is_spot" s_law_is_spot)
    (flaw : Fn1 K mg "law" slaw)
    : ∃ fd : FuncData, (∀ (s : Shared) (u : Value), BindsTo s fd ⟨[u], []⟩ [("_law_script", u)]) ∧ ∀ base : Heap, K.In base → base.Ns mainGlobals mg → FnG l.prog w K mg base CX0 10 fa fd ["_law_script"] (spLaw K) := by
  have tx : Txt mg := ⟨PySem.W.mg_none_of X G n_int, PySem.W.mg_none_of X G n_len, PySem.W.mg_none_of X G n_list, PySem.W.mg_none_of X G n_tuple, PySem.W.mg_none_of X G n_repr, PySem.W.mg_none_of X G n_str, PySem.W.mg_none_of X G n_any, PySem.W.mg_none_of X G n_dict, PySem.W.mg_none_of X G n_zip, PySem.W.mg_none_of X G n_bool, PySem.W.mg_none_of X G n_range, PySem.W.mg_none_of X G n_isinstance⟩
  have U : Cl57 K mg C CP CN TE := ⟨nd.nd, nd.g, nd.ha, nd.hn, nd.htk, nd.hm, nd.kc, nd.ty, kp, kn, te, qp, qn⟩
  have D : Kd K w mg tb57 d1 d2 d3 d4 d5 d6 d7 := ⟨PySem.W.mg_of X G m1, PySem.W.mg_of X G m2, PySem.W.mg_of X G m3, PySem.W.mg_of X G m4, PySem.W.mg_of X G m5, PySem.W.mg_of X G m6, PySem.W.mg_of X G m7, stab_of t1a t1b, stab_of t2a t2b, stab_of t3a t3b, stab_of t4a t4b, stab_of t5a t5b, stab_of t6a t6b, ktxB_ok t7, tb57_ok⟩
  obtain ⟨f, fd, hm, F⟩ := flaw.ex
  have e := hfa.symm.trans hm
  cases e
  refine ⟨fd, fun s u => ?_, fun base _ _ => ?_⟩
  · obtain ⟨oc, od, kV, doc, pm, an, cdv, ct, osl, rfl, lk, hcd⟩ := F.ex
    exact .of_eq rfl
  · obtain ⟨fI, fdI, mk, FI⟩ := nd.ini
    have Dt : Df l.prog w K mg base CX0 1 "table_of" (spTable K tb57) := df_of (ps := ["kind"]) ftable_of (fun _ _ _ _ _ _ us hl => match us, hl with | [_], _ => rfl) fun f fd F => ok_table F tx D
    have Dsp : Df l.prog w K mg base CX0 2 "split_fields" (spSplit tb57) := df_of (ps := ["kind"]) fsplit_fields (fun _ _ _ _ _ _ us hl => match us, hl with | [_], _ => rfl) fun f fd F => ok_split F tx D.ok Dt
    have Dfi : Df l.prog w K mg base CX0 3 "fields_of" (spFields tb57) := df_of (ps := ["kind"]) ffields_of (fun _ _ _ _ _ _ us hl => match us, hl with | [_], _ => rfl) fun f fd F => ok_fields F tx D.ok Dt Dsp
    have Ds0 : Df l.prog w K mg base CX0 3 "start_value" (spStart C false) := df_of (ps := ["name", "held"]) fstart_value (fun _ _ _ _ _ _ us hl => match us, hl with | [_, _], _ => rfl) fun f fd F => ⟨fun vs H Q E h => absurd h.1 (fun e => nomatch e), fun A o s H a us vs Q E _ _ _ _ _ h => absurd h.1 (fun e => nomatch e)⟩
    have N0 : Nd l.prog w K mg base CX0 4 "Node" C "self" "kind" (spInit tb57 C false) := ⟨⟨fI, mk, ok_init FI tx D nd.nd false 3 (Nat.le_refl _) Dfi Dsp Ds0⟩, nd.g⟩
    have Ds1 : Df l.prog w K mg base CX0 6 "start_value" (spStart C true) := df_of (ps := ["name", "held"]) fstart_value (fun _ _ _ _ _ _ us hl => match us, hl with | [_, _], _ => rfl) fun f fd F => ok_start F tx D.ok N0
    have N1 : Nd l.prog w K mg base CX0 7 "Node" C "self" "kind" (spInit tb57 C true) := ⟨⟨fI, mk, ok_init FI tx D nd.nd true 6 (by decide) Dfi Dsp Ds1⟩, nd.g⟩
    have Dii : Df l.prog w K mg base CX0 1 "is_integer" (spInt K) := df_of (ps := ["thing"]) fis_integer (fun _ _ _ _ _ _ us hl => match us, hl with | [_], _ => rfl) fun f fd F => ok_isint F tx
    have Dip : Df l.prog w K mg base CX0 2 "is_place" (spPlace K) := df_of (ps := ["lines", "line", "column"]) fis_place (fun _ _ _ _ _ _ us hl => match us, hl with | [_, _, _], _ => rfl) fun f fd F => ok_isplace F tx Dii
    have Dpo : Df l.prog w K mg base CX0 1 "place_of" (spPlaceOf C) := df_of (ps := ["node"]) fplace_of (fun _ _ _ _ _ _ us hl => match us, hl with | [_], _ => rfl) fun f fd F => ok_placeof F nd.nd
    have Dch : Df l.prog w K mg base (L2.CX l.prog w) 1 "checked_node" (spChk K C CN) := df_of (ps := ["thing"]) fchecked_node (fun _ _ _ _ _ _ us hl => match us, hl with | [_], _ => rfl) fun f fd F => ok_chk F tx U
    have Dse : Df l.prog w K mg base (L2.CX l.prog w) 3 "source_segment" (spSeg K C CP CN) := df_of (ps := ["text", "node"]) fsource_segment (fun _ _ _ _ _ _ us hl => match us, hl with | [_, _], _ => rfl) fun f fd F => ok_seg F tx U Dip Dpo Dch
    have Dsq : Df l.prog w K mg base CX0 1 "_law_is_spot" (spSpotQ K) := df_of (ps := ["_law_rows", "_law_line", "_law_column"]) f_law_is_spot (fun _ _ _ _ _ _ us hl => match us, hl with | [_, _, _], _ => rfl) fun f fd F => ok_spotq F tx
    have Ddu : Df l.prog w K mg base CX0 2 "_law_due" (spDue K) := df_of (ps := ["_law_rows", "_law_place"]) f_law_due (fun _ _ _ _ _ _ us hl => match us, hl with | [_, _], _ => rfl) fun f fd F => ok_due F tx Dsq
    have Dno : Df l.prog w K mg base CX0 9 "_law_node" (spNode57 tb57 C) := df_of (ps := ["_law_kind", "_law_first", "_law_last"]) f_law_node (fun _ _ _ _ _ _ us hl => match us, hl with | [_, _, _], _ => rfl) fun f fd F => ok_node57 F D.ok N1
    have Dtr : Df l.prog w K mg base CX0 4 "_law_tried" (spTried K C) := df_of (ps := ["_law_text_here", "_law_thing"]) f_law_tried (fun _ _ _ _ _ _ us hl => match us, hl with | [_, _], _ => rfl) fun f fd F => ok_tried F tx U Dse
    have Ddr : Df l.prog w K mg base CX0 1 "_law_draw" spDraw := df_of (ps := ["_law_stream", "_law_many"]) f_law_draw (fun _ _ _ _ _ _ us hl => match us, hl with | [_, _], _ => rfl) fun f fd F => ok_draw F tx
    have DpS : Df l.prog w K mg base CX0 2 "_law_pick" spPickS := df_of (ps := ["_law_stream", "_law_some"]) f_law_pick (fun _ _ _ _ _ _ us hl => match us, hl with | [_, _], _ => rfl) fun f fd F => ok_pickS F tx Ddr
    have Dp : Df l.prog w K mg base CX0 2 "_law_pick" (spPick K) := df_of (ps := ["_law_stream", "_law_some"]) f_law_pick (fun _ _ _ _ _ _ us hl => match us, hl with | [_, _], _ => rfl) fun f fd F => ok_pick F tx Ddr
    have Dte : Df l.prog w K mg base CX0 3 "_law_text" spText := df_of (ps := ["_law_stream"]) f_law_text (fun _ _ _ _ _ _ us hl => match us, hl with | [_], _ => rfl) fun f fd F => ok_text F tx Ddr DpS
    have Dst : Df l.prog w K mg base CX0 3 "_law_spot" (spSpot K) := df_of (ps := ["_law_stream", "_law_rows"]) f_law_spot (fun _ _ _ _ _ _ us hl => match us, hl with | [_, _], _ => rfl) fun f fd F => ok_spot F tx Ddr Dp
    exact ok_law F tx U D.ok tb57_kinds Ddr Dp Dte Dst Dno Dtr Ddu Dse N1
end K57

open PySem PySem.W PyProof.Rows
set_option pp.maxSteps 200
set_option pp.deepTerms false
set_option maxRecDepth 100000 in
set_option maxHeartbeats 0 in
theorem PySem.Challenge.cw_treequill_k57_segments_holds : PySem.Challenge.rw_treequill_k57_segments.Holds := by
  w_on; o_law; k_head; (case hw => w_witness2)
  k_fill
  refine Tq.walkG (l := PySem.Challenge.rw_treequill_k57_segments) (n := 63) (k := 10) (x := "_law_script") (CX := fun _ => L2.CX0) (sp := K57.spLaw) rfl (by decide) rfl ⟨rfl, by decide, by decide⟩ (fun w h Y => PySem.W.kIn_of Y) ?F
    (fun K H a ns hl _ hS => ⟨a, ns, rfl, hS, hl, fun _ => rfl⟩) (fun _ _ _ _ _ z => z)
  case F =>
    intro w mg fa h KX G hmg
    refine' K57.all57 KX G hmg ?n_int ?n_len ?n_list ?n_tuple ?n_repr ?n_str ?n_any ?n_dict ?n_zip ?n_bool ?n_range ?n_isinstance (K57.kt_mk KX G ?te_a ?te_l ?te_t) (Tq.kl_mk KX G ?kp_a ?kp_l ?kp_h1 ?kp_h2 ?kp_h3 ?kp_h4 ?kp_h5 ?kp_h6 ?kp_h7 ?kp_h8 ?kp_sa ?kp_ty ?kp_kp) (Tq.kl_mk KX G ?kn_a ?kn_l ?kn_h1 ?kn_h2 ?kn_h3 ?kn_h4 ?kn_h5 ?kn_h6 ?kn_h7 ?kn_h8 ?kn_sa ?kn_ty ?kn_kp) ?qp ?qn (K57.ndf_mk KX G ?nd_a ?nd_i_a ?nd_c1 ?nd_c2 ?nd_c3 ?nd_c4 ?nd_n0 ?nd_n1 ?nd_n2 ?nd_n3 ?nd_n4 ?nd_n5 ?nd_ha ?nd_hn ?nd_htk ?nd_hm ?nd_ty ?nd_mk ?nd_fn ?nd_kp ?nd_l ?nd_c ?nd_k) ?m1_a ?t1a ?t1b ?m2_a ?t2a ?t2b ?m3_a ?t3a ?t3b ?m4_a ?t4a ?t4b ?m5_a ?t5a ?t5b ?m6_a ?t6a ?t6b ?m7_a ?t7 (Tq.fn1 KX G ?ftable_of_a ?ftable_of_l ?ftable_of_c ?ftable_of_k) (Tq.fn1 KX G ?fsplit_fields_a ?fsplit_fields_l ?fsplit_fields_c ?fsplit_fields_k) (Tq.fn1 KX G ?fis_integer_a ?fis_integer_l ?fis_integer_c ?fis_integer_k) (Tq.fn1 KX G ?ffields_of_a ?ffields_of_l ?ffields_of_c ?ffields_of_k) (Tq.fn1 KX G ?fstart_value_a ?fstart_value_l ?fstart_value_c ?fstart_value_k) (Tq.fn1 KX G ?fchecked_node_a ?fchecked_node_l ?fchecked_node_c ?fchecked_node_k) (Tq.fn1 KX G ?fplace_of_a ?fplace_of_l ?fplace_of_c ?fplace_of_k) (Tq.fn1 KX G ?fis_place_a ?fis_place_l ?fis_place_c ?fis_place_k) (Tq.fn1 KX G ?fsource_segment_a ?fsource_segment_l ?fsource_segment_c ?fsource_segment_k) (Tq.fn1 KX G ?f_law_draw_a ?f_law_draw_l ?f_law_draw_c ?f_law_draw_k) (Tq.fn1 KX G ?f_law_pick_a ?f_law_pick_l ?f_law_pick_c ?f_law_pick_k) (Tq.fn1 KX G ?f_law_due_a ?f_law_due_l ?f_law_due_c ?f_law_due_k) (Tq.fn1 KX G ?f_law_node_a ?f_law_node_l ?f_law_node_c ?f_law_node_k) (Tq.fn1 KX G ?f_law_tried_a ?f_law_tried_l ?f_law_tried_c ?f_law_tried_k) (Tq.fn1 KX G ?f_law_text_a ?f_law_text_l ?f_law_text_c ?f_law_text_k) (Tq.fn1 KX G ?f_law_spot_a ?f_law_spot_l ?f_law_spot_c ?f_law_spot_k) (Tq.fn1 KX G ?f_law_is_spot_a ?f_law_is_spot_l ?f_law_is_spot_c ?f_law_is_spot_k) (Tq.fn1 KX G ?flaw_a ?flaw_l ?flaw_c ?flaw_k)
    (case te_a => k_is)
    (case kp_a => k_is)
    (case kn_a => k_is)
    (case nd_a => k_is)
    (case nd_i_a => k_is)
    (case m1_a => k_is)
    (case m2_a => k_is)
    (case m3_a => k_is)
    (case m4_a => k_is)
    (case m5_a => k_is)
    (case m6_a => k_is)
    (case m7_a => k_is)
    (case ftable_of_a => k_is)
    (case fsplit_fields_a => k_is)
    (case fis_integer_a => k_is)
    (case ffields_of_a => k_is)
    (case fstart_value_a => k_is)
    (case fchecked_node_a => k_is)
    (case fplace_of_a => k_is)
    (case fis_place_a => k_is)
    (case fsource_segment_a => k_is)
    (case f_law_draw_a => k_is)
    (case f_law_pick_a => k_is)
    (case f_law_due_a => k_is)
    (case f_law_node_a => k_is)
    (case f_law_tried_a => k_is)
    (case f_law_text_a => k_is)
    (case f_law_spot_a => k_is)
    (case f_law_is_spot_a => k_is)
    (case flaw_a => k_is)
    (case n_int => k_is)
    (case n_len => k_is)
    (case n_list => k_is)
    (case n_tuple => k_is)
    (case n_repr => k_is)
    (case n_str => k_is)
    (case n_any => k_is)
    (case n_dict => k_is)
    (case n_zip => k_is)
    (case n_bool => k_is)
    (case n_range => k_is)
    (case n_isinstance => k_is)
    (case te_l => k_is)
    (case te_t => k_is)
    (case kp_l => k_is)
    (case kp_h1 => k_is)
    (case kp_h2 => k_is)
    (case kp_h3 => k_is)
    (case kp_h4 => k_is)
    (case kp_h5 => k_is)
    (case kp_h6 => k_is)
    (case kp_h7 => k_is)
    (case kp_h8 => k_is)
    (case kp_sa => k_is)
    (case kp_ty => k_is)
    (case kp_kp => k_is)
    (case kn_l => k_is)
    (case kn_h1 => k_is)
    (case kn_h2 => k_is)
    (case kn_h3 => k_is)
    (case kn_h4 => k_is)
    (case kn_h5 => k_is)
    (case kn_h6 => k_is)
    (case kn_h7 => k_is)
    (case kn_h8 => k_is)
    (case kn_sa => k_is)
    (case kn_ty => k_is)
    (case kn_kp => k_is)
    (case nd_c1 => k_is)
    (case nd_c2 => k_is)
    (case nd_c3 => k_is)
    (case nd_c4 => k_is)
    (case nd_n0 => k_is)
    (case nd_n1 => k_is)
    (case nd_n2 => k_is)
    (case nd_n3 => k_is)
    (case nd_n4 => k_is)
    (case nd_n5 => k_is)
    (case nd_ha => k_is)
    (case nd_hn => k_is)
    (case nd_htk => k_is)
    (case nd_hm => k_is)
    (case nd_ty => k_is)
    (case nd_mk => k_is)
    (case nd_fn => k_is)
    (case nd_kp => k_is)
    (case nd_l => k_is)
    (case nd_c => k_is)
    (case nd_k => k_is)
    (case ftable_of_l => k_is)
    (case ftable_of_c => k_is)
    (case ftable_of_k => k_is)
    (case fsplit_fields_l => k_is)
    (case fsplit_fields_c => k_is)
    (case fsplit_fields_k => k_is)
    (case fis_integer_l => k_is)
    (case fis_integer_c => k_is)
    (case fis_integer_k => k_is)
    (case ffields_of_l => k_is)
    (case ffields_of_c => k_is)
    (case ffields_of_k => k_is)
    (case fstart_value_l => k_is)
    (case fstart_value_c => k_is)
    (case fstart_value_k => k_is)
    (case fchecked_node_l => k_is)
    (case fchecked_node_c => k_is)
    (case fchecked_node_k => k_is)
    (case fplace_of_l => k_is)
    (case fplace_of_c => k_is)
    (case fplace_of_k => k_is)
    (case fis_place_l => k_is)
    (case fis_place_c => k_is)
    (case fis_place_k => k_is)
    (case fsource_segment_l => k_is)
    (case fsource_segment_c => k_is)
    (case fsource_segment_k => k_is)
    (case f_law_draw_l => k_is)
    (case f_law_draw_c => k_is)
    (case f_law_draw_k => k_is)
    (case f_law_pick_l => k_is)
    (case f_law_pick_c => k_is)
    (case f_law_pick_k => k_is)
    (case f_law_due_l => k_is)
    (case f_law_due_c => k_is)
    (case f_law_due_k => k_is)
    (case f_law_node_l => k_is)
    (case f_law_node_c => k_is)
    (case f_law_node_k => k_is)
    (case f_law_tried_l => k_is)
    (case f_law_tried_c => k_is)
    (case f_law_tried_k => k_is)
    (case f_law_text_l => k_is)
    (case f_law_text_c => k_is)
    (case f_law_text_k => k_is)
    (case f_law_spot_l => k_is)
    (case f_law_spot_c => k_is)
    (case f_law_spot_k => k_is)
    (case f_law_is_spot_l => k_is)
    (case f_law_is_spot_c => k_is)
    (case f_law_is_spot_k => k_is)
    (case flaw_l => k_is)
    (case flaw_c => k_is)
    (case flaw_k => k_is)
    (case t1a => first | rfl | k_is)
    (case t1b => first | rfl | k_is)
    (case t2a => first | rfl | k_is)
    (case t2b => first | rfl | k_is)
    (case t3a => first | rfl | k_is)
    (case t3b => first | rfl | k_is)
    (case t4a => first | rfl | k_is)
    (case t4b => first | rfl | k_is)
    (case t5a => first | rfl | k_is)
    (case t5b => first | rfl | k_is)
    (case t6a => first | rfl | k_is)
    (case t6b => first | rfl | k_is)
    (case t7 => first | rfl | k_is)
    (case qp => k_exc)
    (case qn => k_exc)